import PyProof.Rows.All
import Wide.All
import OpenK.AllK
import Wide.FinOn
import HandS.ForMost
import HandS.Walk
import HandS.Rev
import HandS.IsInst
import HandS.TupAny
import HandS.TupLen
import HandS.Style
import HandS.Flow
import HandS.WordsExc
import PySem.Challenge.RW_patternback_k04_flat_patterns
set_option Elab.async false
set_option linter.all false
set_option autoImplicit false
set_option maxRecDepth 100000
set_option maxHeartbeats 4000000
section
/-! Mini: a pure evaluator for the fragment of Python that the program and the laws use. -/
namespace Mini

/-- an answer, an own exception (by its number), or: not covered -/
inductive R (α : Type) where
  | ok (a : α) | exc (c : Nat) | bad
namespace R
def bind {α β : Type} : R α → (α → R β) → R β
  | .ok a, f => f a
  | .exc c, _ => .exc c
  | .bad, _ => .bad
@[simp] theorem bind_ok {α β : Type} (a : α) (f : α → R β) : (R.ok a).bind f = f a := (rfl : _ = _).trans rfl
@[simp] theorem bind_bad {α β : Type} (f : α → R β) : (R.bad : R α).bind f = .bad := (rfl : _ = _).trans rfl
@[simp] theorem bind_exc {α β : Type} (c : Nat) (f : α → R β) : (R.exc c : R α).bind f = .exc c := (rfl : _ = _).trans rfl
/-- a part that is not covered -/
def of {α : Type} : Option α → R α
  | some a => .ok a
  | none => .bad
@[simp] theorem of_some {α : Type} (a : α) : R.of (some a) = .ok a := (rfl : _ = _).trans rfl
@[simp] theorem of_none {α : Type} : (R.of none : R α) = .bad := (rfl : _ = _).trans rfl
/-- no exception may leave here -/
def nox {α : Type} : R α → R α
  | .ok a => .ok a
  | _ => .bad
@[simp] theorem nox_ok {α : Type} (a : α) : (R.ok a).nox = .ok a := (rfl : _ = _).trans rfl
end R

/-- data -/
inductive D where
  | non | bl (b : Bool) | int (i : Int) | str (s : List Nat)
  | tup (ds : List D) | lst (ds : List D) | scr (ns : List Int) | own (k : Nat) | dic (n : Nat)

/-- owned objects: a list, a dict of zints, a dict of tuples of zints (all values True) -/
inductive Ob where
  | L (ds : List D) | DI (ks : List Int) | DT (ks : List (List Int))

abbrev Env := List (Option D)
abbrev Sto := List Ob
abbrev M := Env → Sto → R (D × Sto)
abbrev T := Env → Sto → R (Bool × Sto)
abbrev A := Env → Sto → R (List D × Sto)
abbrev PO := Env → Sto → R (Option Int × Sto)
inductive O where
  | nx (e : Env) | rt (d : D) | bk (e : Env) | ct (e : Env)
abbrev S := Env → Sto → R (O × Sto)
abbrev F := List D → Sto → R (D × Sto)

/-- the longest sequence -/
abbrev line : Nat := 16777216
@[simp] theorem line_eq : line = 16777216 := (rfl : _ = _).trans rfl

/-! ### values -/
mutual
def deq : D → D → Bool
  | .non, .non => true
  | .bl a, .bl b => a == b
  | .int a, .int b => a == b
  | .bl a, .int b => (if a then 1 else 0) == b
  | .int a, .bl b => a == (if b then 1 else 0)
  | .str a, .str b => a == b
  | .tup a, .tup b => deqL a b
  | .lst a, .lst b => deqL a b
  | _, _ => false
def deqL : List D → List D → Bool
  | [], [] => true
  | x :: xs, y :: ys => deq x y && deqL xs ys
  | _, _ => false
end
mutual
/-- data that == walks: no script, no owned object; its depth -/
@[simp] def plain : D → Bool
  | .scr _ => false
  | .own _ => false
  | .dic _ => false
  | .str z => z.all fun c => decide (c < 1114112)
  | .tup ds => plainL ds
  | .lst ds => plainL ds
  | _ => true
@[simp] def plainL : List D → Bool
  | [] => true
  | d :: ds => plain d && plainL ds
end
mutual
def dep : D → Nat
  | .tup ds => depL ds + 1
  | .lst ds => depL ds + 1
  | _ => 0
def depL : List D → Nat
  | [] => 0
  | d :: ds => max (dep d) (depL ds)
end
/-- an owned list is seen as a list -/
def rz (s : Sto) : D → D
  | .own k => match s[k]? with
    | some (.L ds) => .lst ds
    | _ => .own k
  | d => d
@[simp] theorem rz_non (s : Sto) : rz s .non = .non := (rfl : _ = _).trans rfl
@[simp] theorem rz_bl (s : Sto) (b : Bool) : rz s (.bl b) = .bl b := (rfl : _ = _).trans rfl
@[simp] theorem rz_int (s : Sto) (i : Int) : rz s (.int i) = .int i := (rfl : _ = _).trans rfl
@[simp] theorem rz_str (s : Sto) (z : List Nat) : rz s (.str z) = .str z := (rfl : _ = _).trans rfl
@[simp] theorem rz_tup (s : Sto) (ds : List D) : rz s (.tup ds) = .tup ds := (rfl : _ = _).trans rfl
@[simp] theorem rz_lst (s : Sto) (ds : List D) : rz s (.lst ds) = .lst ds := (rfl : _ = _).trans rfl
@[simp] theorem rz_scr (s : Sto) (ns : List Int) : rz s (.scr ns) = .scr ns := (rfl : _ = _).trans rfl
@[simp] theorem rz_dic (s : Sto) (n : Nat) : rz s (.dic n) = .dic n := (rfl : _ = _).trans rfl
theorem rz_own {s : Sto} {k : Nat} {ds : List D} (h : s[k]? = some (.L ds)) : rz s (.own k) = .lst ds := by simp only [rz, h]
theorem rz_ownT {s : Sto} {k : Nat} {ks : List (List Int)} (h : s[k]? = some (.DT ks)) : rz s (.own k) = .own k := by simp only [rz, h]
theorem rz_ownI {s : Sto} {k : Nat} {ks : List Int} (h : s[k]? = some (.DI ks)) : rz s (.own k) = .own k := by simp only [rz, h]
@[simp] def flat : D → Bool
  | .bl _ => true
  | .int _ => true
  | .str _ => true
  | .non => true
  | _ => false
def pos (n : Nat) (i : Int) : Option Nat := if 0 ≤ i then (if i < n then some i.toNat else none) else if -(n : Int) ≤ i then some (i + n).toNat else none
def six (n d : Nat) : Option Int → Nat
  | none => d
  | some v => if v < 0 then (v + (n : Int)).toNat else min v.toNat n
def cut {α : Type} (xs : List α) (lo hi : Option Int) : List α := (xs.drop (six xs.length 0 lo)).take (six xs.length xs.length hi - six xs.length 0 lo)
def glue (sep : List Nat) : List (List Nat) → List Nat
  | [] => []
  | [x] => x
  | x :: y :: r => x ++ sep ++ glue sep (y :: r)
@[simp] def zstrs : List D → Option (List (List Nat))
  | [] => some []
  | .str s :: r => (zstrs r).map (s :: ·)
  | _ :: _ => none
@[simp] def bls : List D → Option (List Bool)
  | [] => some []
  | .bl s :: r => (bls r).map (s :: ·)
  | _ :: _ => none
@[simp] def zints : List D → Option (List Int)
  | [] => some []
  | .int s :: r => (zints r).map (s :: ·)
  | _ :: _ => none
mutual
/-- nothing owned within -/
@[simp] def free : D → Bool
  | .own _ => false
  | .tup ds => freeL ds
  | .lst ds => freeL ds
  | _ => true
@[simp] def freeL : List D → Bool
  | [] => true
  | d :: ds => free d && freeL ds
end
/-- .. or nothing is owned at all -/
@[simp] def chk (s : Sto) (ds : List D) : Bool := s.isEmpty || freeL ds
def small64 (i : Int) : Prop := -(2 ^ 64) < i ∧ i < 2 ^ 64
instance (i : Int) : Decidable (small64 i) := inferInstanceAs (Decidable (_ ∧ _))

/-! ### operators on two values (owned lists are seen as lists) -/
abbrev Op := Sto → D → D → Option D
@[simp] def opAdd : Op
  | _, .int i, .int j => some (.int (i + j))
  | _, .str a, .str b => if a.length + b.length ≤ line then some (.str (a ++ b)) else none
  | _, .lst a, .lst b => if a.length + b.length ≤ line then some (.lst (a ++ b)) else none
  | _, _, _ => none
@[simp] def opSub : Op
  | _, .int i, .int j => some (.int (i - j))
  | _, _, _ => none
@[simp] def opMul : Op
  | _, .int i, .int j => if small64 i ∨ small64 j then some (.int (i * j)) else none
  | _, .lst a, .int k => if 0 ≤ k ∧ k < 2 ^ 63 ∧ a.length * k.toNat ≤ line then some (.lst (List.replicate k.toNat a).flatten) else none
  | _, .str a, .int k => if 0 ≤ k ∧ k ≤ 1000 ∧ a.length ≤ 1000 then some (.str (List.replicate k.toNat a).flatten) else none
  | _, _, _ => none
@[simp] def opDiv : Op
  | _, .int i, .int j => if 0 < j ∧ j < 1073741824 then some (.int (i / j)) else none
  | _, _, _ => none
@[simp] def opMod : Op
  | _, .int i, .int j => if 0 < j then some (.int (i % j)) else none
  | _, _, _ => none
@[simp] def cmI (p : Int → Int → Bool) : Op
  | _, .int i, .int j => some (.bl (p i j))
  | _, _, _ => none
abbrev opLt : Op := cmI fun i j => decide (i < j)
abbrev opLe : Op := cmI fun i j => decide (i ≤ j)
abbrev opGt : Op := cmI fun i j => decide (j < i)
abbrev opGe : Op := cmI fun i j => decide (j ≤ i)
def eqB : D → D → Option Bool
  | .int i, .int j => some (decide (i = j))
  | .str a, .str b => some (decide (a = b))
  | .bl a, .bl b => some (decide (a = b))
  | x, y => if plain x = true ∧ plain y = true ∧ dep x ≤ 60 ∧ dep y ≤ 60 then some (deq x y) else none
@[simp] def opEq : Op := fun _ x y => (eqB x y).map .bl
@[simp] def opNe : Op := fun _ x y => (eqB x y).map fun b => .bl (!b)
def inD (x : D) (ds : List D) : Bool := ds.any fun y => deq y x
def opInB (s : Sto) : D → D → Option Bool
  | .str [c], .str z => some (decide (c ∈ z))
  | x, .lst ds => if flat x && ds.all flat then some (inD x ds) else none
  | x, .tup ds => if flat x && ds.all flat then some (inD x ds) else none
  | .int i, .own k => match s[k]? with
    | some (.DI ks) => some (decide (i ∈ ks))
    | _ => none
  | .tup ds, .own k => match s[k]?, zints ds with
    | some (.DT ks), some js => some (decide (js ∈ ks))
    | _, _ => none
  | _, _ => none
@[simp] def opIn : Op := fun s x y => (opInB s x y).map .bl
@[simp] def opNotIn : Op := fun s x y => (opInB s x y).map fun b => .bl (!b)
/-- is: with None, or two truths -/
def opIsB : D → D → Option Bool
  | .non, .non => some true
  | _, .non => some false
  | .bl a, .bl b => some (a == b)
  | _, _ => none
@[simp] def opIs : Op := fun _ x y => (opIsB x y).map .bl
@[simp] def opIsNot : Op := fun _ x y => (opIsB x y).map fun b => .bl (!b)
def opIx : Op
  | _, .lst ds, .int i => (pos ds.length i).bind fun j => ds[j]?
  | _, .tup ds, .int i => (pos ds.length i).bind fun j => ds[j]?
  | _, .str z, .int i => if z.length ≤ line then ((pos z.length i).bind fun j => z[j]?).map fun c => .str [c] else none
  | _, .scr ns, .int i => ((pos ns.length i).bind fun j => ns[j]?).map .int
  | _, _, _ => none

/-- the sign at a place -/
def at0 (z : List Nat) (k : Nat) : Nat := z.getD k 0
@[simp] theorem eqB_int (i j : Int) : eqB (.int i) (.int j) = some (decide (i = j)) := (rfl : _ = _).trans rfl
@[simp] theorem eqB_str (i j : List Nat) : eqB (.str i) (.str j) = some (decide (i = j)) := (rfl : _ = _).trans rfl
@[simp] theorem eqB_bl (i j : Bool) : eqB (.bl i) (.bl j) = some (decide (i = j)) := (rfl : _ = _).trans rfl
@[simp] theorem eqB_lst (i j : List D) : eqB (.lst i) (.lst j) = if plainL i = true ∧ plainL j = true ∧ depL i ≤ 59 ∧ depL j ≤ 59 then some (deqL i j) else none := by
  simp [eqB, plain, dep, deq]
@[simp] theorem eqB_tup (i j : List D) : eqB (.tup i) (.tup j) = if plainL i = true ∧ plainL j = true ∧ depL i ≤ 59 ∧ depL j ≤ 59 then some (deqL i j) else none := by
  simp [eqB, plain, dep, deq]
@[simp] theorem opInB_sg (s : Sto) (c : Nat) (z : List Nat) : opInB s (.str [c]) (.str z) = some (decide (c ∈ z)) := (rfl : _ = _).trans rfl
theorem opInB_lst (s : Sto) (x : D) (ds : List D) (h : flat x = true) (h2 : ds.all flat = true) : opInB s x (.lst ds) = some (inD x ds) := by
  unfold opInB; split <;> simp_all
theorem opInB_tup (s : Sto) (x : D) (ds : List D) (h : flat x = true) (h2 : ds.all flat = true) : opInB s x (.tup ds) = some (inD x ds) := by
  unfold opInB; split <;> simp_all
theorem opInB_DI {s : Sto} {k : Nat} {ks : List Int} (h : s[k]? = some (.DI ks)) (i : Int) : opInB s (.int i) (.own k) = some (decide (i ∈ ks)) := by
  simp only [opInB, h]
theorem opInB_DT {s : Sto} {k : Nat} {ks : List (List Int)} (h : s[k]? = some (.DT ks)) {ds : List D} {js : List Int} (hj : zints ds = some js) : opInB s (.tup ds) (.own k) = some (decide (js ∈ ks)) := by
  simp only [opInB, h, hj]
@[simp] theorem opIsB_nn : opIsB .non .non = some true := (rfl : _ = _).trans rfl
@[simp] theorem opIsB_bb (a b : Bool) : opIsB (.bl a) (.bl b) = some (a == b) := (rfl : _ = _).trans rfl
@[simp] theorem opIsB_in (i : Int) : opIsB (.int i) .non = some false := (rfl : _ = _).trans rfl
@[simp] theorem opIsB_tn (i : List D) : opIsB (.tup i) .non = some false := (rfl : _ = _).trans rfl
@[simp] theorem opIsB_ln (i : List D) : opIsB (.lst i) .non = some false := (rfl : _ = _).trans rfl
@[simp] theorem opIsB_bn (i : Bool) : opIsB (.bl i) .non = some false := (rfl : _ = _).trans rfl
@[simp] theorem opIx_tup (s : Sto) (ds : List D) (i : Int) : opIx s (.tup ds) (.int i) = (pos ds.length i).bind fun j => ds[j]? := (rfl : _ = _).trans rfl
@[simp] theorem opIx_lst (s : Sto) (ds : List D) (i : Int) : opIx s (.lst ds) (.int i) = (pos ds.length i).bind fun j => ds[j]? := (rfl : _ = _).trans rfl
@[simp] theorem opIx_scr (s : Sto) (ns : List Int) (i : Int) : opIx s (.scr ns) (.int i) = ((pos ns.length i).bind fun j => ns[j]?).map .int := (rfl : _ = _).trans rfl
theorem opIx_str (s : Sto) (z : List Nat) (i : Int) (h0 : 0 ≤ i) (h1 : i < z.length) (hl : z.length ≤ line) : opIx s (.str z) (.int i) = some (.str [at0 z i.toNat]) := by
  have h2 : i.toNat < z.length := by omega
  simp [opIx, pos, h0, h1, show z.length ≤ 16777216 from hl, h2, at0]

/-! ### expressions -/
def mV (i : Nat) : M := fun e s => match e[i]? with
  | some (some d) => .ok (d, s)
  | _ => .bad
def mC (d : D) : M := fun _ s => .ok (d, s)
def aNil : A := fun _ s => .ok ([], s)
def aCons (m : M) (a : A) : A := fun e s => (m e s).bind fun p => (a e p.2).bind fun q => .ok (p.1 :: q.1, q.2)
def mTup (a : A) : M := fun e s => (a e s).bind fun p => if p.1.length ≤ 100 then .ok (.tup p.1, p.2) else .bad
def mLst (a : A) : M := fun e s => (a e s).bind fun p => if p.1.length ≤ 100 ∧ chk p.2 p.1 = true then .ok (.lst p.1, p.2) else .bad
def mOp (f : Op) (a b : M) : M := fun e s => (a e s).bind fun p => (b e p.2).bind fun q => (R.of (f q.2 (rz q.2 p.1) (rz q.2 q.1))).bind fun d => .ok (d, q.2)
def mNeg (a : M) : M := fun e s => (a e s).bind fun p => match p.1 with
  | .int i => .ok (.int (-i), p.2)
  | _ => .bad
@[simp] def isBl : D → Option Bool
  | .bl b => some b
  | _ => none
def mAnd (a b : M) : M := fun e s => (a e s).bind fun p => (R.of (isBl p.1)).bind fun c => if c = true then b e p.2 else .ok (.bl false, p.2)
def mOr (a b : M) : M := fun e s => (a e s).bind fun p => (R.of (isBl p.1)).bind fun c => if c = true then .ok (.bl true, p.2) else b e p.2
def mNot (a : M) : M := fun e s => (a e s).bind fun p => (R.of (isBl p.1)).bind fun c => .ok (.bl (!c), p.2)
def mIf (t : T) (a b : M) : M := fun e s => (t e s).bind fun p => if p.1 = true then a e p.2 else b e p.2
/-- a f b g c -/
def mChain (f g : Op) (a b c : M) : M := fun e s => (a e s).bind fun p => (b e p.2).bind fun q => (R.of ((f q.2 (rz q.2 p.1) (rz q.2 q.1)).bind isBl)).bind fun k =>
  if k = true then (c e q.2).bind fun r => (R.of (g r.2 (rz r.2 q.1) (rz r.2 r.1))).bind fun d => .ok (d, r.2) else .ok (.bl false, q.2)
def poN : PO := fun _ s => .ok (none, s)
def poS (m : M) : PO := fun e s => (m e s).bind fun p => match p.1 with
  | .int i => .ok (some i, p.2)
  | _ => .bad
@[simp] def slD (lo hi : Option Int) : D → Option D
  | .lst ds => some (.lst (cut ds lo hi))
  | .tup ds => some (.tup (cut ds lo hi))
  | .str z => if z.length ≤ line then some (.str (cut z lo hi)) else none
  | .scr ns => some (.lst ((cut ns lo hi).map .int))
  | _ => none
def mSl (a : M) (lo hi : PO) : M := fun e s => (a e s).bind fun p => (lo e p.2).bind fun q => (hi e q.2).bind fun r => (R.of (slD q.1 r.1 (rz r.2 p.1))).bind fun d => .ok (d, r.2)
/-- the call of a def that has nothing to do with what is owned here -/
def mCall (φ : List D → R D) (a : A) : M := fun e s => (a e s).bind fun p => if chk p.2 p.1 = true then (φ p.1).bind fun d => .ok (d, p.2) else .bad
/-- .. of a def that is handed owned objects -/
def mCallG (φ : F) (a : A) : M := fun e s => (a e s).bind fun p => φ p.1 p.2
/-- a built-in of one argument -/
def mB (f : D → Option D) (a : M) : M := fun e s => (a e s).bind fun p => (R.of (f (rz p.2 p.1))).bind fun d => .ok (d, p.2)
@[simp] def bLen : D → Option D
  | .lst ds => some (.int ds.length)
  | .tup ds => some (.int ds.length)
  | .str z => if z.length ≤ line then some (.int z.length) else none
  | .scr ns => some (.int ns.length)
  | .dic n => some (.int n)
  | _ => none
/-- len of an owned dict -/
def mLenD (a : M) : M := fun e s => (a e s).bind fun p => match p.1 with
  | .own k => match p.2[k]? with
    | some (.DT ks) => .ok (.int ks.length, p.2)
    | _ => .bad
  | _ => .bad
@[simp] def bTup : D → Option D
  | .lst ds => some (.tup ds)
  | .tup ds => some (.tup ds)
  | _ => none
@[simp] def bList : D → Option D
  | .lst ds => some (.lst ds)
  | _ => none
@[simp] def bAll : D → Option D
  | .lst ds => (bls ds).map fun bs => .bl (bs.all id)
  | _ => none
@[simp] def bAny : D → Option D
  | .lst ds => (bls ds).map fun bs => .bl (bs.any id)
  | _ => none
@[simp] def bSum : D → Option D
  | .lst ds => (zints ds).map fun ns => .int ns.sum
  | _ => none
def maxI : List Int → Int
  | [] => 0
  | [x] => x
  | x :: y :: r => max x (maxI (y :: r))
@[simp] def bMax : D → Option D
  | .lst ds => match zints ds with
    | some (n :: ns) => some (.int (maxI (n :: ns)))
    | _ => none
  | _ => none
@[simp] def bInt : D → Option D
  | .int i => some (.int i)
  | .bl b => some (.int (if b then 1 else 0))
  | _ => none
inductive Ty where
  | bool | int | str | tuple | list
  deriving DecidableEq
@[simp] def isTy : Ty → D → Option D
  | t, .non => some (.bl false)
  | t, .bl _ => some (.bl (decide (t = .bool) || decide (t = .int)))
  | t, .int _ => some (.bl (decide (t = .int)))
  | t, .str _ => some (.bl (decide (t = .str)))
  | t, .tup _ => some (.bl (decide (t = .tuple)))
  | t, .lst _ => some (.bl (decide (t = .list)))
  | t, _ => none
/-- min, max of two zints -/
@[simp] def opMin : Op
  | _, .int i, .int j => some (.int (if j < i then j else i))
  | _, _, _ => none
@[simp] def opMax : Op
  | _, .int i, .int j => some (.int (if i < j then j else i))
  | _, _, _ => none
@[simp] def joinD (sep : List Nat) : D → Option D
  | .lst ds => (zstrs ds).bind fun xs => if (xs.map (·.length)).sum + xs.length * sep.length ≤ line then some (.str (glue sep xs)) else none
  | _ => none
/-- methods of an owned list -/
def mApp (o a : M) : M := fun e s => (o e s).bind fun p => match p.1 with
  | .own k => match p.2[k]? with
    | some (.L _) => (a e p.2).bind fun q => match q.2[k]? with
      | some (.L ds) => if ds.length < line ∧ free q.1 = true then .ok (.non, q.2.set k (.L (ds ++ [q.1]))) else .bad
      | _ => .bad
    | _ => .bad
  | _ => .bad
def mPop (o : M) : M := fun e s => (o e s).bind fun p => match p.1 with
  | .own k => match p.2[k]? with
    | some (.L ds) => match ds[ds.length - 1]? with
      | some d => .ok (d, p.2.set k (.L ds.dropLast))
      | none => .bad
    | _ => .bad
  | _ => .bad
def mUpd (f : List D → List D) (o : M) : M := fun e s => (o e s).bind fun p => match p.1 with
  | .own k => match p.2[k]? with
    | some (.L ds) => .ok (.non, p.2.set k (.L (f ds)))
    | _ => .bad
  | _ => .bad
abbrev mRev : M → M := mUpd List.reverse
abbrev mClear : M → M := mUpd fun _ => []
/-- an owned list seen as it stands -/
@[simp] def fzD (s : Sto) : D → Option D
  | .own k => match s[k]? with
    | some (.L ds) => some (.lst ds)
    | _ => none
  | .tup ds => if freeL ds = true then some (.tup ds) else none
  | d => some d
mutual
/-- no list within -/
@[simp] def noL : D → Bool
  | .non => true
  | .bl _ => true
  | .int _ => true
  | .str _ => true
  | .tup ds => noLL ds
  | _ => false
@[simp] def noLL : List D → Bool
  | [] => true
  | d :: ds => noL d && noLL ds
end
/-- m, while what is owned stands still; it hands back no list -/
def mFz (m : M) : M := fun e s => (m (e.map fun o => o.bind (fzD s)) []).bind fun p => if noL p.1 = true then .ok (p.1, s) else .bad

/-! ### tests -/
@[simp] def tru : D → Option Bool
  | .non => some false
  | .bl b => some b
  | .int i => some (i != 0)
  | .str z => if z.length ≤ line then some (!z.isEmpty) else none
  | .lst ds => some (!ds.isEmpty)
  | .tup ds => some (!ds.isEmpty)
  | _ => none
def tV (m : M) : T := fun e s => (m e s).bind fun p => (R.of (isBl p.1)).bind fun b => .ok (b, p.2)
def tT (m : M) : T := fun e s => (m e s).bind fun p => (R.of (tru (rz p.2 p.1))).bind fun b => .ok (b, p.2)
def tAnd (a b : T) : T := fun e s => (a e s).bind fun p => if p.1 = true then b e p.2 else .ok (false, p.2)
def tOr (a b : T) : T := fun e s => (a e s).bind fun p => if p.1 = true then .ok (true, p.2) else b e p.2
def tNot (a : T) : T := fun e s => (a e s).bind fun p => .ok (!p.1, p.2)
def tYes : T := fun _ s => .ok (true, s)

/-! ### what is walked -/
def sgn (z : List Nat) : List D := z.map fun c => .str [c]
@[simp] def walkD : D → Option (List D)
  | .lst ds => some ds
  | .tup ds => some ds
  | .str z => some (sgn z)
  | _ => none
/-- a sequence; an owned one may not be walked (but for mFz) -/
def iSeq (m : M) : A := fun e s => (m e s).bind fun p => (R.of (walkD p.1)).bind fun ds => .ok (ds, p.2)
def rng (lo : Int) (n : Nat) : List D := (List.range n).map fun k => .int (lo + ((k : Nat) : Int))
def iR1 (m : M) : A := fun e s => (m e s).bind fun p => match p.1 with
  | .int j => if -(2 ^ 62) ≤ j ∧ j < 2 ^ 62 then .ok (rng 0 j.toNat, p.2) else .bad
  | _ => .bad
def iR2 (a b : M) : A := fun e s => (a e s).bind fun p => (b e p.2).bind fun q => match p.1, q.1 with
  | .int i, .int j => if -(2 ^ 62) ≤ i ∧ i < 2 ^ 62 ∧ -(2 ^ 62) ≤ j ∧ j < 2 ^ 62 then .ok (rng i (j - i).toNat, q.2) else .bad
  | _, _ => .bad
@[simp] def revD : D → Option (List D)
  | .lst ds => some ds.reverse
  | .tup ds => some ds.reverse
  | _ => none
def iRev (m : M) : A := fun e s => (m e s).bind fun p => (R.of (revD p.1)).bind fun ds => .ok (ds, p.2)
def lcF (i : Nat) (t : T) (m : M) (e : Env) : List D → Sto → R (List D × Sto)
  | [], s => .ok ([], s)
  | x :: xs, s => (t (e.set i (some x)) s).nox.bind fun p =>
    if p.1 = true then (m (e.set i (some x)) p.2).nox.bind fun q => if chk q.2 [q.1] = true then (lcF i t m e xs q.2).bind fun r => .ok (q.1 :: r.1, r.2) else .bad else lcF i t m e xs p.2
def mLc (i : Nat) (it : A) (t : T) (m : M) : M := fun e s => (it e s).bind fun p => if p.1.length ≤ line then (lcF i t m e p.1 p.2).bind fun q => .ok (.lst q.1, q.2) else .bad

/-! ### statements -/
def sNil : S := fun e s => .ok (.nx e, s)
def sCons (a b : S) : S := fun e s => (a e s).bind fun p => match p.1 with
  | .nx e' => b e' p.2
  | o => .ok (o, p.2)
def sSet (i : Nat) (m : M) : S := fun e s => (m e s).bind fun p => .ok (.nx (e.set i (some p.1)), p.2)
/-- x = a display of an object that is ours alone from here on -/
def sOwnL (i : Nat) (a : A) : S := fun e s => (a e s).bind fun p => if p.1.length ≤ 100 ∧ freeL p.1 = true then .ok (.nx (e.set i (some (.own p.2.length))), p.2 ++ [.L p.1]) else .bad
def mOwnDI : M := fun e s => .ok (.own s.length, s ++ [.DI []])
def mOwnDT : M := fun e s => .ok (.own s.length, s ++ [.DT []])
def sEx (m : M) : S := fun e s => (m e s).bind fun p => .ok (.nx e, p.2)
def sRet (m : M) : S := fun e s => (m e s).bind fun p => .ok (.rt p.1, p.2)
def sIf (t : T) (a b : S) : S := fun e s => (t e s).bind fun p => if p.1 = true then a e p.2 else b e p.2
def sCt : S := fun e s => .ok (.ct e, s)
def sBk : S := fun e s => .ok (.bk e, s)
def sPs : S := fun e s => .ok (.nx e, s)
def sBad : S := fun _ _ => .bad
def sRaise (c : Nat) : S := fun _ _ => .exc c
/-- o[i] = v -/
def putS (s : Sto) (k : Nat) (i v : D) : Option Sto := match s[k]?, i, v with
  | some (.L ds), .int j, v => (pos ds.length j).bind fun n => if free v = true then some (s.set k (.L (ds.set n v))) else none
  | some (.DI ks), .int j, .bl true => if ks.length < line then some (s.set k (.DI (if j ∈ ks then ks else ks ++ [j]))) else none
  | some (.DT ks), .tup ds, .bl true => (zints ds).bind fun js => if ks.length < line then some (s.set k (.DT (if js ∈ ks then ks else ks ++ [js]))) else none
  | _, _, _ => none
def sPut (o i v : M) : S := fun e s => (v e s).bind fun p => (o e p.2).bind fun q => (i e q.2).bind fun r => match q.1 with
  | .own k => (R.of (putS r.2 k r.1 p.1)).bind fun s' => .ok (.nx e, s')
  | _ => .bad
def forF (i : Nat) (b : S) : List D → Env → Sto → R (O × Sto)
  | [], e, s => .ok (.nx e, s)
  | x :: xs, e, s => (b (e.set i (some x)) s).bind fun p => match p.1 with
    | .nx e' => forF i b xs e' p.2
    | .ct e' => forF i b xs e' p.2
    | .bk e' => .ok (.nx e', p.2)
    | .rt d => .ok (.rt d, p.2)
def sFor (i : Nat) (it : A) (b : S) : S := fun e s => (it e s).bind fun p => forF i b p.1 e p.2
def whF (t : T) (b : S) : Nat → Env → Sto → Option (R (O × Sto))
  | 0, _, _ => none
  | n + 1, e, s => match t e s with
    | .bad => some .bad
    | .exc c => some (.exc c)
    | .ok (false, s') => some (.ok (.nx e, s'))
    | .ok (true, s') => match b e s' with
      | .bad => some .bad
      | .exc c => some (.exc c)
      | .ok (.nx e', s2) => whF t b n e' s2
      | .ok (.ct e', s2) => whF t b n e' s2
      | .ok (.bk e', s2) => some (.ok (.nx e', s2))
      | .ok (.rt d, s2) => some (.ok (.rt d, s2))
open Classical in
noncomputable def sWhile (t : T) (b : S) : S := fun e s => if h : ∃ n r, whF t b n e s = some r then (Classical.choose_spec h).choose else .bad

/-! ### a def -/
/-- the result of a body: what is handed back (None where it runs through) -/
def fin (r : R (O × Sto)) : R (D × Sto) := r.bind fun p => match p.1 with
  | .rt d => .ok (d, p.2)
  | .nx _ => .ok (.non, p.2)
  | _ => .bad
mutual
/-- objects from the n-th on are seen as they stand -/
@[simp] def frz (n : Nat) (s : Sto) : D → Option D
  | .own k => if k < n then some (.own k) else match s[k]? with
    | some (.L ds) => some (.lst ds)
    | some (.DT ks) => some (.dic ks.length)
    | _ => none
  | .tup ds => (frzL n s ds).map .tup
  | d => some d
@[simp] def frzL (n : Nat) (s : Sto) : List D → Option (List D)
  | [] => some []
  | d :: ds => (frz n s d).bind fun x => (frzL n s ds).map (x :: ·)
end
def ent (names : Nat) (ds : List D) : Env := ds.map some ++ List.replicate (names - ds.length) none
/-- a def of so many names: the arguments, then nothing; what is handed back is frozen, the def's own objects are gone -/
def runG (names : Nat) (b : S) : F := fun ds s => (fin (b (ent names ds) s)).bind fun p => (R.of (frz s.length p.2 p.1)).bind fun d => .ok (d, p.2.take s.length)
def run (names : Nat) (b : S) : List D → R D := fun ds => (runG names b ds []).bind fun p => .ok p.1

/-! ### while -/
theorem whF_det {t : T} {b : S} : ∀ (n m : Nat) (e : Env) (s : Sto) (r r' : R (O × Sto)), whF t b n e s = some r → whF t b m e s = some r' → r = r' := by
  intro n
  induction n with
  | zero => intro m e s r r' h; simp [whF] at h
  | succ n ih =>
    intro m e s r r' h h'
    cases m with
    | zero => simp [whF] at h'
    | succ m =>
      unfold whF at h h'
      split at h <;> simp_all
      split at h <;> simp_all
      · exact ih _ _ _ _ _ h h'
      · exact ih _ _ _ _ _ h h'
theorem sWhile_eq {t : T} {b : S} {n : Nat} {e : Env} {s : Sto} {r : R (O × Sto)} (h : whF t b n e s = some r) : sWhile t b e s = r := by
  have hx : ∃ n r, whF t b n e s = some r := ⟨n, r, h⟩
  unfold sWhile
  rw [dif_pos hx]
  exact whF_det _ _ _ _ _ _ (Classical.choose_spec hx).choose_spec h
theorem sWhile_bad_of {t : T} {b : S} {e : Env} {s : Sto} (h : ∀ n r, whF t b n e s ≠ some r) : sWhile t b e s = .bad := by
  unfold sWhile
  rw [dif_neg]
  rintro ⟨n, r, q⟩
  exact h n r q
theorem sWhile_false {t : T} {b : S} {e : Env} {s s' : Sto} (h : t e s = .ok (false, s')) : sWhile t b e s = .ok (.nx e, s') :=
  sWhile_eq (n := 1) (by unfold whF; rw [h])
theorem sWhile_true {t : T} {b : S} {e e' : Env} {s s' s2 : Sto} (h : t e s = .ok (true, s')) (hb : b e s' = .ok (.nx e', s2) ∨ b e s' = .ok (.ct e', s2)) : sWhile t b e s = sWhile t b e' s2 := by
  have step : ∀ n, whF t b (n + 1) e s = whF t b n e' s2 := fun n => by
    rw [whF, h]
    rcases hb with hb | hb <;> simp only [hb]
  by_cases hx : ∃ n r, whF t b n e' s2 = some r
  · obtain ⟨n, r, q⟩ := hx
    rw [sWhile_eq q]
    exact sWhile_eq (n := n + 1) (by rw [step]; exact q)
  · rw [sWhile_bad_of fun n r q => hx ⟨n, r, q⟩]
    refine sWhile_bad_of fun n r q => ?_
    cases n with
    | zero => simp [whF] at q
    | succ n => exact hx ⟨n, r, by rw [← step]; exact q⟩
theorem sWhile_ret {t : T} {b : S} {e : Env} {s s' s2 : Sto} {d : D} (h : t e s = .ok (true, s')) (hb : b e s' = .ok (.rt d, s2)) : sWhile t b e s = .ok (.rt d, s2) :=
  sWhile_eq (n := 1) (by unfold whF; rw [h]; simp only [hb])
theorem sWhile_exc {t : T} {b : S} {e : Env} {s s' : Sto} {c : Nat} (h : t e s = .ok (true, s')) (hb : b e s' = .exc c) : sWhile t b e s = .exc c :=
  sWhile_eq (n := 1) (by unfold whF; rw [h]; simp only [hb])
theorem sWhile_brk {t : T} {b : S} {e e' : Env} {s s' s2 : Sto} (h : t e s = .ok (true, s')) (hb : b e s' = .ok (.bk e', s2)) : sWhile t b e s = .ok (.nx e', s2) :=
  sWhile_eq (n := 1) (by unfold whF; rw [h]; simp only [hb])
end Mini
end
section
/-! Ev: the evaluator step by step, the first part always before the rest (for simp) -/
namespace Mini
section
variable {e : Env} {s s' : Sto} {d x y : D} {ds : List D} {i : Nat} {f g : Op}
/-- what a partial value step gives -/
def kOf (s : Sto) : Option D → R (D × Sto)
  | some d => .ok (d, s)
  | none => .bad
@[simp] theorem kOf_some : kOf s (some d) = .ok (d, s) := (rfl : _ = _).trans rfl
@[simp] theorem kOf_none : kOf s none = .bad := (rfl : _ = _).trans rfl
def look : Env → Nat → Option D
  | [], _ => none
  | x :: _, 0 => x
  | _ :: e, n + 1 => look e n
@[simp] theorem look_0 {a : Option D} : look (a :: e) 0 = a := (rfl : _ = _).trans rfl
@[simp] theorem look_s {a : Option D} {n : Nat} : look (a :: e) (n + 1) = look e n := (rfl : _ = _).trans rfl
theorem look_eq : ∀ (e : Env) (i : Nat), look e i = (e[i]?).join
  | [], i => by simp [look]
  | a :: e, 0 => by simp [look]
  | a :: e, n + 1 => by rw [look_s, look_eq e n]; simp
def kV (s : Sto) : Option D → R (D × Sto)
  | some d => .ok (d, s)
  | none => .bad
@[simp] theorem kV_some : kV s (some d) = .ok (d, s) := (rfl : _ = _).trans rfl
@[simp] theorem mV_eq : mV i e s = kV s (look e i) := by
  rw [look_eq]; unfold mV kV
  rcases e[i]? with _ | _ | d <;> rfl
@[simp] theorem mC_eq : mC d e s = .ok (d, s) := (rfl : _ = _).trans rfl
@[simp] theorem aNil_eq : aNil e s = .ok ([], s) := (rfl : _ = _).trans rfl
def kA2 (d : D) : R (List D × Sto) → R (List D × Sto)
  | .ok (ds, s) => .ok (d :: ds, s) | .exc c => .exc c | .bad => .bad
def kA1 (a : A) (e : Env) : R (D × Sto) → R (List D × Sto)
  | .ok (d, s) => kA2 d (a e s) | .exc c => .exc c | .bad => .bad
@[simp] theorem kA2_ok : kA2 d (.ok (ds, s)) = .ok (d :: ds, s) := (rfl : _ = _).trans rfl
@[simp] theorem kA2_exc {c} : kA2 d (.exc c) = .exc c := (rfl : _ = _).trans rfl
@[simp] theorem kA1_ok {a : A} : kA1 a e (.ok (d, s)) = kA2 d (a e s) := (rfl : _ = _).trans rfl
@[simp] theorem kA1_exc {a : A} {c} : kA1 a e (.exc c) = .exc c := (rfl : _ = _).trans rfl
@[simp] theorem aCons_eq {m : M} {a : A} : aCons m a e s = kA1 a e (m e s) := by
  unfold aCons; cases m e s <;> simp [kA1]; rename_i p; cases a e p.2 <;> simp [kA2]
def kTup : R (List D × Sto) → R (D × Sto)
  | .ok (ds, s) => if ds.length ≤ 100 then .ok (.tup ds, s) else .bad | .exc c => .exc c | .bad => .bad
@[simp] theorem kTup_ok : kTup (.ok (ds, s)) = if ds.length ≤ 100 then .ok (.tup ds, s) else .bad := (rfl : _ = _).trans rfl
@[simp] theorem mTup_eq {a : A} : mTup a e s = kTup (a e s) := by unfold mTup; cases a e s <;> simp [kTup]
def kLst : R (List D × Sto) → R (D × Sto)
  | .ok (ds, s) => if ds.length ≤ 100 ∧ chk s ds = true then .ok (.lst ds, s) else .bad | .exc c => .exc c | .bad => .bad
@[simp] theorem kLst_ok : kLst (.ok (ds, s)) = if ds.length ≤ 100 ∧ chk s ds = true then .ok (.lst ds, s) else .bad := (rfl : _ = _).trans rfl
@[simp] theorem mLst_eq {a : A} : mLst a e s = kLst (a e s) := by unfold mLst; cases a e s <;> simp [kLst]
def kOp2 (f : Op) (x : D) : R (D × Sto) → R (D × Sto)
  | .ok (y, s) => kOf s (f s (rz s x) (rz s y)) | .exc c => .exc c | .bad => .bad
def kOp1 (f : Op) (b : M) (e : Env) : R (D × Sto) → R (D × Sto)
  | .ok (x, s) => kOp2 f x (b e s) | .exc c => .exc c | .bad => .bad
@[simp] theorem kOp2_ok : kOp2 f x (.ok (y, s)) = kOf s (f s (rz s x) (rz s y)) := (rfl : _ = _).trans rfl
@[simp] theorem kOp2_exc {c} : kOp2 f x (.exc c) = .exc c := (rfl : _ = _).trans rfl
@[simp] theorem kOp1_ok {b : M} : kOp1 f b e (.ok (x, s)) = kOp2 f x (b e s) := (rfl : _ = _).trans rfl
@[simp] theorem kOp1_exc {b : M} {c} : kOp1 f b e (.exc c) = .exc c := (rfl : _ = _).trans rfl
theorem of_kOf (o : Option D) : ((R.of o).bind fun d => R.ok (d, s)) = kOf s o := by cases o <;> rfl
@[simp] theorem mOp_eq {a b : M} : mOp f a b e s = kOp1 f b e (a e s) := by
  unfold mOp; cases a e s <;> simp [kOp1]; rename_i p; cases b e p.2 <;> simp [kOp2, of_kOf]
def kNeg : R (D × Sto) → R (D × Sto)
  | .ok (.int i, s) => .ok (.int (-i), s) | .ok _ => .bad | .exc c => .exc c | .bad => .bad
@[simp] theorem kNeg_ok {i : Int} : kNeg (.ok (.int i, s)) = .ok (.int (-i), s) := (rfl : _ = _).trans rfl
@[simp] theorem mNeg_eq {a : M} : mNeg a e s = kNeg (a e s) := by
  unfold mNeg kNeg; rcases a e s with ⟨d, s⟩ | _ | _ <;> simp; cases d <;> simp
def kAnd (b : M) (e : Env) : R (D × Sto) → R (D × Sto)
  | .ok (.bl true, s) => b e s | .ok (.bl false, s) => .ok (.bl false, s) | .ok _ => .bad | .exc c => .exc c | .bad => .bad
@[simp] theorem kAnd_t {b : M} : kAnd b e (.ok (.bl true, s)) = b e s := (rfl : _ = _).trans rfl
@[simp] theorem kAnd_f {b : M} : kAnd b e (.ok (.bl false, s)) = .ok (.bl false, s) := (rfl : _ = _).trans rfl
@[simp] theorem mAnd_eq {a b : M} : mAnd a b e s = kAnd b e (a e s) := by
  unfold mAnd kAnd; rcases a e s with ⟨d, s⟩ | _ | _ <;> simp; cases d <;> simp; rename_i q; cases q <;> simp
def kOr (b : M) (e : Env) : R (D × Sto) → R (D × Sto)
  | .ok (.bl false, s) => b e s | .ok (.bl true, s) => .ok (.bl true, s) | .ok _ => .bad | .exc c => .exc c | .bad => .bad
@[simp] theorem kOr_f {b : M} : kOr b e (.ok (.bl false, s)) = b e s := (rfl : _ = _).trans rfl
@[simp] theorem kOr_t {b : M} : kOr b e (.ok (.bl true, s)) = .ok (.bl true, s) := (rfl : _ = _).trans rfl
@[simp] theorem mOr_eq {a b : M} : mOr a b e s = kOr b e (a e s) := by
  unfold mOr kOr; rcases a e s with ⟨d, s⟩ | _ | _ <;> simp; cases d <;> simp; rename_i q; cases q <;> simp
def kNot : R (D × Sto) → R (D × Sto)
  | .ok (.bl b, s) => .ok (.bl (!b), s) | .ok _ => .bad | .exc c => .exc c | .bad => .bad
@[simp] theorem kNot_ok {b : Bool} : kNot (.ok (.bl b, s)) = .ok (.bl (!b), s) := (rfl : _ = _).trans rfl
@[simp] theorem mNot_eq {a : M} : mNot a e s = kNot (a e s) := by
  unfold mNot kNot; rcases a e s with ⟨d, s⟩ | _ | _ <;> simp; cases d <;> simp
def kIf {β : Type} (a b : Env → Sto → R (β × Sto)) (e : Env) : R (Bool × Sto) → R (β × Sto)
  | .ok (true, s) => a e s | .ok (false, s) => b e s | .exc c => .exc c | .bad => .bad
@[simp] theorem kIf_t {β : Type} {a b : Env → Sto → R (β × Sto)} : kIf a b e (.ok (true, s)) = a e s := (rfl : _ = _).trans rfl
@[simp] theorem kIf_f {β : Type} {a b : Env → Sto → R (β × Sto)} : kIf a b e (.ok (false, s)) = b e s := (rfl : _ = _).trans rfl
@[simp] theorem mIf_eq {t : T} {a b : M} : mIf t a b e s = kIf a b e (t e s) := by
  unfold mIf kIf; rcases t e s with ⟨d, s⟩ | _ | _ <;> simp; cases d <;> simp
@[simp] theorem sIf_eq {t : T} {a b : S} : sIf t a b e s = kIf a b e (t e s) := by
  unfold sIf kIf; rcases t e s with ⟨d, s⟩ | _ | _ <;> simp; cases d <;> simp
def kCh4 (g : Op) (y : D) : R (D × Sto) → R (D × Sto)
  | .ok (z, s) => kOf s (g s (rz s y) (rz s z)) | .exc c => .exc c | .bad => .bad
def kCh3 (g : Op) (c : M) (e : Env) (y : D) (s : Sto) : Option D → R (D × Sto)
  | some (.bl true) => kCh4 g y (c e s) | some (.bl false) => .ok (.bl false, s) | _ => .bad
def kCh2 (f g : Op) (c : M) (e : Env) (x : D) : R (D × Sto) → R (D × Sto)
  | .ok (y, s) => kCh3 g c e y s (f s (rz s x) (rz s y)) | .exc c => .exc c | .bad => .bad
def kCh1 (f g : Op) (b c : M) (e : Env) : R (D × Sto) → R (D × Sto)
  | .ok (x, s) => kCh2 f g c e x (b e s) | .exc c => .exc c | .bad => .bad
@[simp] theorem kCh1_ok {b c : M} : kCh1 f g b c e (.ok (x, s)) = kCh2 f g c e x (b e s) := (rfl : _ = _).trans rfl
@[simp] theorem kCh2_ok {c : M} : kCh2 f g c e x (.ok (y, s)) = kCh3 g c e y s (f s (rz s x) (rz s y)) := (rfl : _ = _).trans rfl
@[simp] theorem kCh3_t {c : M} : kCh3 g c e y s (some (.bl true)) = kCh4 g y (c e s) := (rfl : _ = _).trans rfl
@[simp] theorem kCh3_f {c : M} : kCh3 g c e y s (some (.bl false)) = .ok (.bl false, s) := (rfl : _ = _).trans rfl
@[simp] theorem kCh4_ok : kCh4 g y (.ok (x, s)) = kOf s (g s (rz s y) (rz s x)) := (rfl : _ = _).trans rfl
@[simp] theorem mChain_eq {a b c : M} : mChain f g a b c e s = kCh1 f g b c e (a e s) := by
  unfold mChain; rcases a e s with ⟨x, s⟩ | _ | _ <;> simp [kCh1]
  rcases b e s with ⟨y, s⟩ | _ | _ <;> simp [kCh2]
  cases f s (rz s x) (rz s y) with
  | none => simp [kCh3]
  | some d =>
    cases d <;> simp [kCh3]
    rename_i k
    cases k <;> simp
    rcases c e s with ⟨z, s⟩ | _ | _ <;> simp [kCh4, of_kOf]
@[simp] theorem poN_eq : poN e s = .ok (none, s) := (rfl : _ = _).trans rfl
def kPo : R (D × Sto) → R (Option Int × Sto)
  | .ok (.int i, s) => .ok (some i, s) | .ok _ => .bad | .exc c => .exc c | .bad => .bad
@[simp] theorem kPo_ok {i : Int} : kPo (.ok (.int i, s)) = .ok (some i, s) := (rfl : _ = _).trans rfl
@[simp] theorem poS_eq {a : M} : poS a e s = kPo (a e s) := by
  unfold poS kPo; rcases a e s with ⟨d, s⟩ | _ | _ <;> simp; cases d <;> simp
def kSl3 (x : D) (lo : Option Int) : R (Option Int × Sto) → R (D × Sto)
  | .ok (hi, s) => kOf s (slD lo hi (rz s x)) | .exc c => .exc c | .bad => .bad
def kSl2 (h : PO) (e : Env) (x : D) : R (Option Int × Sto) → R (D × Sto)
  | .ok (lo, s) => kSl3 x lo (h e s) | .exc c => .exc c | .bad => .bad
def kSl1 (l h : PO) (e : Env) : R (D × Sto) → R (D × Sto)
  | .ok (x, s) => kSl2 h e x (l e s) | .exc c => .exc c | .bad => .bad
@[simp] theorem kSl1_ok {l h : PO} : kSl1 l h e (.ok (x, s)) = kSl2 h e x (l e s) := (rfl : _ = _).trans rfl
@[simp] theorem kSl2_ok {h : PO} {lo : Option Int} : kSl2 h e x (.ok (lo, s)) = kSl3 x lo (h e s) := (rfl : _ = _).trans rfl
@[simp] theorem kSl3_ok {lo hi : Option Int} : kSl3 x lo (.ok (hi, s)) = kOf s (slD lo hi (rz s x)) := (rfl : _ = _).trans rfl
@[simp] theorem mSl_eq {a : M} {l h : PO} : mSl a l h e s = kSl1 l h e (a e s) := by
  unfold mSl; rcases a e s with ⟨x, s⟩ | _ | _ <;> simp [kSl1]
  rcases l e s with ⟨y, s⟩ | _ | _ <;> simp [kSl2]
  rcases h e s with ⟨z, s⟩ | _ | _ <;> simp [kSl3, of_kOf]
def kCall2 (s : Sto) : R D → R (D × Sto)
  | .ok d => .ok (d, s) | .exc c => .exc c | .bad => .bad
def kCall (φ : List D → R D) : R (List D × Sto) → R (D × Sto)
  | .ok (ds, s) => if chk s ds = true then kCall2 s (φ ds) else .bad | .exc c => .exc c | .bad => .bad
@[simp] theorem kCall2_ok : kCall2 s (.ok d) = .ok (d, s) := (rfl : _ = _).trans rfl
@[simp] theorem kCall2_exc {c} : kCall2 s (.exc c) = .exc c := (rfl : _ = _).trans rfl
@[simp] theorem kCall_ok {φ : List D → R D} : kCall φ (.ok (ds, s)) = if chk s ds = true then kCall2 s (φ ds) else .bad := (rfl : _ = _).trans rfl
@[simp] theorem mCall_eq {φ : List D → R D} {a : A} : mCall φ a e s = kCall φ (a e s) := by
  unfold mCall; rcases a e s with ⟨x, s⟩ | _ | _ <;> simp only [R.bind_ok, R.bind_exc, R.bind_bad, kCall]; split <;> try rfl
  cases φ x <;> rfl
def kG (φ : F) : R (List D × Sto) → R (D × Sto)
  | .ok (ds, s) => φ ds s | .exc c => .exc c | .bad => .bad
@[simp] theorem kG_ok {φ : F} : kG φ (.ok (ds, s)) = φ ds s := (rfl : _ = _).trans rfl
@[simp] theorem mCallG_eq {φ : F} {a : A} : mCallG φ a e s = kG φ (a e s) := by
  unfold mCallG; rcases a e s with ⟨x, s⟩ | _ | _ <;> rfl
def kB (f : D → Option D) : R (D × Sto) → R (D × Sto)
  | .ok (d, s) => kOf s (f (rz s d)) | .exc c => .exc c | .bad => .bad
@[simp] theorem kB_ok {f : D → Option D} : kB f (.ok (d, s)) = kOf s (f (rz s d)) := (rfl : _ = _).trans rfl
@[simp] theorem mB_eq {f : D → Option D} {a : M} : mB f a e s = kB f (a e s) := by
  unfold mB; rcases a e s with ⟨x, s⟩ | _ | _ <;> simp [kB, of_kOf]
def kTV : R (D × Sto) → R (Bool × Sto)
  | .ok (.bl b, s) => .ok (b, s) | .ok _ => .bad | .exc c => .exc c | .bad => .bad
@[simp] theorem kTV_ok {b : Bool} : kTV (.ok (.bl b, s)) = .ok (b, s) := (rfl : _ = _).trans rfl
@[simp] theorem tV_eq {a : M} : tV a e s = kTV (a e s) := by
  unfold tV kTV; rcases a e s with ⟨d, s⟩ | _ | _ <;> simp; cases d <;> simp
def kTT2 (s : Sto) : Option Bool → R (Bool × Sto)
  | some b => .ok (b, s) | none => .bad
def kTT : R (D × Sto) → R (Bool × Sto)
  | .ok (d, s) => kTT2 s (tru (rz s d)) | .exc c => .exc c | .bad => .bad
@[simp] theorem kTT2_some {b : Bool} : kTT2 s (some b) = .ok (b, s) := (rfl : _ = _).trans rfl
@[simp] theorem kTT_ok : kTT (.ok (d, s)) = kTT2 s (tru (rz s d)) := (rfl : _ = _).trans rfl
@[simp] theorem tT_eq {a : M} : tT a e s = kTT (a e s) := by
  unfold tT kTT; rcases a e s with ⟨d, s⟩ | _ | _ <;> simp only [R.bind_ok, R.bind_exc, R.bind_bad]; cases tru (rz s d) <;> rfl
def kTA (b : T) (e : Env) : R (Bool × Sto) → R (Bool × Sto)
  | .ok (true, s) => b e s | .ok (false, s) => .ok (false, s) | .exc c => .exc c | .bad => .bad
@[simp] theorem kTA_t {b : T} : kTA b e (.ok (true, s)) = b e s := (rfl : _ = _).trans rfl
@[simp] theorem kTA_f {b : T} : kTA b e (.ok (false, s)) = .ok (false, s) := (rfl : _ = _).trans rfl
@[simp] theorem tAnd_eq {a b : T} : tAnd a b e s = kTA b e (a e s) := by
  unfold tAnd kTA; rcases a e s with ⟨d, s⟩ | _ | _ <;> simp; cases d <;> simp
def kTO (b : T) (e : Env) : R (Bool × Sto) → R (Bool × Sto)
  | .ok (false, s) => b e s | .ok (true, s) => .ok (true, s) | .exc c => .exc c | .bad => .bad
@[simp] theorem kTO_f {b : T} : kTO b e (.ok (false, s)) = b e s := (rfl : _ = _).trans rfl
@[simp] theorem kTO_t {b : T} : kTO b e (.ok (true, s)) = .ok (true, s) := (rfl : _ = _).trans rfl
@[simp] theorem tOr_eq {a b : T} : tOr a b e s = kTO b e (a e s) := by
  unfold tOr kTO; rcases a e s with ⟨d, s⟩ | _ | _ <;> simp; cases d <;> simp
def kTN : R (Bool × Sto) → R (Bool × Sto)
  | .ok (b, s) => .ok (!b, s) | .exc c => .exc c | .bad => .bad
@[simp] theorem kTN_ok {b : Bool} : kTN (.ok (b, s)) = .ok (!b, s) := (rfl : _ = _).trans rfl
@[simp] theorem tNot_eq {a : T} : tNot a e s = kTN (a e s) := by
  unfold tNot kTN; rcases a e s with ⟨d, s⟩ | _ | _ <;> simp
@[simp] theorem tYes_eq : tYes e s = .ok (true, s) := (rfl : _ = _).trans rfl
def kW (s : Sto) : Option (List D) → R (List D × Sto)
  | some ds => .ok (ds, s) | none => .bad
@[simp] theorem kW_some : kW s (some ds) = .ok (ds, s) := (rfl : _ = _).trans rfl
def kI (w : D → Option (List D)) : R (D × Sto) → R (List D × Sto)
  | .ok (d, s) => kW s (w d) | .exc c => .exc c | .bad => .bad
@[simp] theorem kI_ok {w : D → Option (List D)} : kI w (.ok (d, s)) = kW s (w d) := (rfl : _ = _).trans rfl
@[simp] theorem iSeq_eq {a : M} : iSeq a e s = kI walkD (a e s) := by
  unfold iSeq kI; rcases a e s with ⟨d, s⟩ | _ | _ <;> simp only [R.bind_ok, R.bind_exc, R.bind_bad]; cases walkD d <;> rfl
@[simp] theorem iRev_eq {a : M} : iRev a e s = kI revD (a e s) := by
  unfold iRev kI; rcases a e s with ⟨d, s⟩ | _ | _ <;> simp only [R.bind_ok, R.bind_exc, R.bind_bad]; cases revD d <;> rfl
def kR1 : R (D × Sto) → R (List D × Sto)
  | .ok (.int j, s) => if -(2 ^ 62) ≤ j ∧ j < 2 ^ 62 then .ok (rng 0 j.toNat, s) else .bad | .ok _ => .bad | .exc c => .exc c | .bad => .bad
theorem kR1_ok {j : Int} (h : -(2 ^ 62) ≤ j ∧ j < 2 ^ 62) : kR1 (.ok (.int j, s)) = .ok (rng 0 j.toNat, s) := by simp only [kR1, if_pos h]
@[simp] theorem kR1_nat {j : Nat} (h : (j : Int) < 2 ^ 62) : kR1 (.ok (.int (j : Int), s)) = .ok (rng 0 j, s) := by rw [kR1_ok ⟨by omega, h⟩]; rfl
@[simp] theorem iR1_eq {a : M} : iR1 a e s = kR1 (a e s) := by
  unfold iR1 kR1; rcases a e s with ⟨d, s⟩ | _ | _ <;> simp; cases d <;> simp
def kR3 (x : D) : R (D × Sto) → R (List D × Sto)
  | .ok (.int j, s) => match x with
    | .int i => if -(2 ^ 62) ≤ i ∧ i < 2 ^ 62 ∧ -(2 ^ 62) ≤ j ∧ j < 2 ^ 62 then .ok (rng i (j - i).toNat, s) else .bad
    | _ => .bad
  | .ok _ => .bad | .exc c => .exc c | .bad => .bad
def kR2 (b : M) (e : Env) : R (D × Sto) → R (List D × Sto)
  | .ok (x, s) => kR3 x (b e s) | .exc c => .exc c | .bad => .bad
@[simp] theorem kR2_ok {b : M} : kR2 b e (.ok (x, s)) = kR3 x (b e s) := (rfl : _ = _).trans rfl
theorem kR3_ok {i j : Int} (h : -(2 ^ 62) ≤ i ∧ i < 2 ^ 62 ∧ -(2 ^ 62) ≤ j ∧ j < 2 ^ 62) : kR3 (.int i) (.ok (.int j, s)) = .ok (rng i (j - i).toNat, s) := by simp only [kR3, if_pos h]
@[simp] theorem iR2_eq {a b : M} : iR2 a b e s = kR2 b e (a e s) := by
  unfold iR2; rcases a e s with ⟨x, s⟩ | _ | _ <;> simp only [R.bind_ok, R.bind_exc, R.bind_bad, kR2]
  rcases b e s with ⟨y, s⟩ | _ | _ <;> simp only [R.bind_ok, R.bind_exc, R.bind_bad, kR3]
  cases x <;> cases y <;> rfl
def kLc2 : R (List D × Sto) → R (D × Sto)
  | .ok (ys, s) => .ok (.lst ys, s) | .exc c => .exc c | .bad => .bad
def kLc (i : Nat) (t : T) (m : M) (e : Env) : R (List D × Sto) → R (D × Sto)
  | .ok (ds, s) => if ds.length ≤ 16777216 then kLc2 (lcF i t m e ds s) else .bad | .exc c => .exc c | .bad => .bad
@[simp] theorem kLc2_ok : kLc2 (.ok (ds, s)) = .ok (.lst ds, s) := (rfl : _ = _).trans rfl
@[simp] theorem kLc_ok {t : T} {m : M} : kLc i t m e (.ok (ds, s)) = if ds.length ≤ 16777216 then kLc2 (lcF i t m e ds s) else .bad := (rfl : _ = _).trans rfl
@[simp] theorem mLc_eq {a : A} {t : T} {m : M} : mLc i a t m e s = kLc i t m e (a e s) := by
  unfold mLc kLc; rcases a e s with ⟨d, s⟩ | _ | _ <;> simp only [R.bind_ok, R.bind_exc, R.bind_bad, line_eq]; split <;> try rfl
  cases lcF i t m e d s <;> rfl
/-! statements -/
@[simp] theorem sNil_eq : sNil e s = .ok (.nx e, s) := (rfl : _ = _).trans rfl
def kS (b : S) : R (O × Sto) → R (O × Sto)
  | .ok (.nx e, s) => b e s | .ok (.rt d, s) => .ok (.rt d, s) | .ok (.bk e, s) => .ok (.bk e, s) | .ok (.ct e, s) => .ok (.ct e, s) | .exc c => .exc c | .bad => .bad
@[simp] theorem kS_nx {b : S} : kS b (.ok (.nx e, s)) = b e s := (rfl : _ = _).trans rfl
@[simp] theorem kS_rt {b : S} : kS b (.ok (.rt d, s)) = .ok (.rt d, s) := (rfl : _ = _).trans rfl
@[simp] theorem kS_bk {b : S} : kS b (.ok (.bk e, s)) = .ok (.bk e, s) := (rfl : _ = _).trans rfl
@[simp] theorem kS_ct {b : S} : kS b (.ok (.ct e, s)) = .ok (.ct e, s) := (rfl : _ = _).trans rfl
@[simp] theorem kS_exc {b : S} {c} : kS b (.exc c) = .exc c := (rfl : _ = _).trans rfl
@[simp] theorem sCons_eq {a b : S} : sCons a b e s = kS b (a e s) := by
  unfold sCons kS; rcases a e s with ⟨o, s⟩ | _ | _ <;> simp; cases o <;> simp
def kSet (i : Nat) (e : Env) : R (D × Sto) → R (O × Sto)
  | .ok (d, s) => .ok (.nx (e.set i (some d)), s) | .exc c => .exc c | .bad => .bad
@[simp] theorem kSet_ok : kSet i e (.ok (d, s)) = .ok (.nx (e.set i (some d)), s) := (rfl : _ = _).trans rfl
@[simp] theorem sSet_eq {m : M} : sSet i m e s = kSet i e (m e s) := by
  unfold sSet kSet; rcases m e s with ⟨o, s⟩ | _ | _ <;> simp
def kOwnL (i : Nat) (e : Env) : R (List D × Sto) → R (O × Sto)
  | .ok (ds, s) => if ds.length ≤ 100 ∧ freeL ds = true then .ok (.nx (e.set i (some (.own s.length))), s ++ [.L ds]) else .bad | .exc c => .exc c | .bad => .bad
@[simp] theorem kOwnL_ok : kOwnL i e (.ok (ds, s)) = if ds.length ≤ 100 ∧ freeL ds = true then .ok (.nx (e.set i (some (.own s.length))), s ++ [.L ds]) else .bad := (rfl : _ = _).trans rfl
@[simp] theorem sOwnL_eq {a : A} : sOwnL i a e s = kOwnL i e (a e s) := by
  unfold sOwnL kOwnL; rcases a e s with ⟨o, s⟩ | _ | _ <;> simp
@[simp] theorem mOwnDI_eq : mOwnDI e s = .ok (.own s.length, s ++ [.DI []]) := (rfl : _ = _).trans rfl
@[simp] theorem mOwnDT_eq : mOwnDT e s = .ok (.own s.length, s ++ [.DT []]) := (rfl : _ = _).trans rfl
def kEx (e : Env) : R (D × Sto) → R (O × Sto)
  | .ok (d, s) => .ok (.nx e, s) | .exc c => .exc c | .bad => .bad
@[simp] theorem kEx_ok : kEx e (.ok (d, s)) = .ok (.nx e, s) := (rfl : _ = _).trans rfl
@[simp] theorem sEx_eq {m : M} : sEx m e s = kEx e (m e s) := by
  unfold sEx kEx; rcases m e s with ⟨o, s⟩ | _ | _ <;> simp
def kRet : R (D × Sto) → R (O × Sto)
  | .ok (d, s) => .ok (.rt d, s) | .exc c => .exc c | .bad => .bad
@[simp] theorem kRet_ok : kRet (.ok (d, s)) = .ok (.rt d, s) := (rfl : _ = _).trans rfl
@[simp] theorem sRet_eq {m : M} : sRet m e s = kRet (m e s) := by
  unfold sRet kRet; rcases m e s with ⟨o, s⟩ | _ | _ <;> simp
@[simp] theorem sCt_eq : sCt e s = .ok (.ct e, s) := (rfl : _ = _).trans rfl
@[simp] theorem sBk_eq : sBk e s = .ok (.bk e, s) := (rfl : _ = _).trans rfl
@[simp] theorem sPs_eq : sPs e s = .ok (.nx e, s) := (rfl : _ = _).trans rfl
@[simp] theorem sRaise_eq {c} : sRaise c e s = .exc c := (rfl : _ = _).trans rfl
def kFor (i : Nat) (b : S) (e : Env) : R (List D × Sto) → R (O × Sto)
  | .ok (ds, s) => forF i b ds e s | .exc c => .exc c | .bad => .bad
@[simp] theorem kFor_ok {b : S} : kFor i b e (.ok (ds, s)) = forF i b ds e s := (rfl : _ = _).trans rfl
@[simp] theorem sFor_eq {a : A} {b : S} : sFor i a b e s = kFor i b e (a e s) := by
  unfold sFor kFor; rcases a e s with ⟨o, s⟩ | _ | _ <;> simp
/-! owned objects -/
def kApp2 (k : Nat) : R (D × Sto) → R (D × Sto)
  | .ok (d, s) => match s[k]? with
    | some (.L ds) => if ds.length < 16777216 ∧ free d = true then .ok (.non, s.set k (.L (ds ++ [d]))) else .bad
    | _ => .bad
  | .exc c => .exc c | .bad => .bad
def kApp (a : M) (e : Env) : R (D × Sto) → R (D × Sto)
  | .ok (.own k, s) => match s[k]? with
    | some (.L _) => kApp2 k (a e s)
    | _ => .bad
  | .ok _ => .bad | .exc c => .exc c | .bad => .bad
theorem kApp_ok {a : M} {k : Nat} (h : s[k]? = some (.L ds)) : kApp a e (.ok (.own k, s)) = kApp2 k (a e s) := by simp only [kApp, h]
theorem kApp2_ok {k : Nat} (h : s[k]? = some (.L ds)) (h2 : ds.length < 16777216) (h3 : free d = true) : kApp2 k (.ok (d, s)) = .ok (.non, s.set k (.L (ds ++ [d]))) := by simp only [kApp2, h, h2, h3, and_self, if_true]
@[simp] theorem mApp_eq {o a : M} : mApp o a e s = kApp a e (o e s) := by
  unfold mApp kApp; rcases o e s with ⟨x, s⟩ | _ | _ <;> simp only [R.bind_ok, R.bind_exc, R.bind_bad]
  cases x <;> simp only
  rename_i k
  cases s[k]? with
  | none => rfl
  | some o =>
    cases o <;> simp only
    rcases a e s with ⟨y, s⟩ | _ | _ <;> simp only [R.bind_ok, R.bind_exc, R.bind_bad, kApp2, line_eq]
    all_goals (cases s[k]? with
    | none => rfl
    | some o => cases o <;> rfl)
def kFz (s : Sto) : R (D × Sto) → R (D × Sto)
  | .ok (d, _) => if noL d = true then .ok (d, s) else .bad
  | .exc c => .exc c | .bad => .bad
@[simp] theorem kFz_ok : kFz s (.ok (d, s')) = if noL d = true then .ok (d, s) else .bad := (rfl : _ = _).trans rfl
@[simp] theorem mFz_eq {m : M} : mFz m e s = kFz s (m (e.map fun o => o.bind (fzD s)) []) := by
  unfold mFz; generalize m (e.map fun o => o.bind (fzD s)) [] = r; rcases r with ⟨x, s2⟩ | _ | _ <;> rfl
def kPop2 (s : Sto) (k : Nat) : Option Ob → R (D × Sto)
  | some (.L ds) => match ds[ds.length - 1]? with
    | some d => .ok (d, s.set k (.L ds.dropLast))
    | none => .bad
  | _ => .bad
def kPop : R (D × Sto) → R (D × Sto)
  | .ok (.own k, s) => kPop2 s k s[k]?
  | .ok _ => .bad | .exc c => .exc c | .bad => .bad
@[simp] theorem kPop_ok {k : Nat} : kPop (.ok (.own k, s)) = kPop2 s k s[k]? := (rfl : _ = _).trans rfl
theorem kPop2_ok {k : Nat} : kPop2 s k (some (.L (ds ++ [d]))) = .ok (d, s.set k (.L ds)) := by
  simp only [kPop2, List.length_append, List.length_cons, List.length_nil, Nat.zero_add, Nat.add_sub_cancel, List.getElem?_concat_length, List.dropLast_concat]
@[simp] theorem mPop_eq {o : M} : mPop o e s = kPop (o e s) := by
  unfold mPop kPop; rcases o e s with ⟨x, s⟩ | _ | _ <;> simp only [R.bind_ok, R.bind_exc, R.bind_bad]
  cases x <;> simp only [kPop2] <;> rfl
def kUpd2 (f : List D → List D) (s : Sto) (k : Nat) : Option Ob → R (D × Sto)
  | some (.L ds) => .ok (.non, s.set k (.L (f ds)))
  | _ => .bad
def kUpd (f : List D → List D) : R (D × Sto) → R (D × Sto)
  | .ok (.own k, s) => kUpd2 f s k s[k]?
  | .ok _ => .bad | .exc c => .exc c | .bad => .bad
@[simp] theorem kUpd_ok {f : List D → List D} {k : Nat} : kUpd f (.ok (.own k, s)) = kUpd2 f s k s[k]? := (rfl : _ = _).trans rfl
@[simp] theorem kUpd2_ok {f : List D → List D} {k : Nat} : kUpd2 f s k (some (.L ds)) = .ok (.non, s.set k (.L (f ds))) := (rfl : _ = _).trans rfl
@[simp] theorem mUpd_eq {f : List D → List D} {o : M} : mUpd f o e s = kUpd f (o e s) := by
  unfold mUpd kUpd; rcases o e s with ⟨x, s⟩ | _ | _ <;> simp only [R.bind_ok, R.bind_exc, R.bind_bad]
  cases x <;> simp only [kUpd2] <;> rfl
def kPut4 (s : Sto) (e : Env) : Option Sto → R (O × Sto)
  | some s' => .ok (.nx e, s') | none => .bad
@[simp] theorem kPut4_some : kPut4 s e (some s') = .ok (.nx e, s') := (rfl : _ = _).trans rfl
def kPut3 (e : Env) (v o : D) : R (D × Sto) → R (O × Sto)
  | .ok (i, s) => match o with
    | .own k => kPut4 s e (putS s k i v)
    | _ => .bad
  | .exc c => .exc c | .bad => .bad
@[simp] theorem kPut3_ok {v : D} {k : Nat} : kPut3 e v (.own k) (.ok (x, s)) = kPut4 s e (putS s k x v) := (rfl : _ = _).trans rfl
def kPut2 (i : M) (e : Env) (v : D) : R (D × Sto) → R (O × Sto)
  | .ok (o, s) => kPut3 e v o (i e s) | .exc c => .exc c | .bad => .bad
@[simp] theorem kPut2_ok {i : M} {v : D} : kPut2 i e v (.ok (x, s)) = kPut3 e v x (i e s) := (rfl : _ = _).trans rfl
def kPut1 (o i : M) (e : Env) : R (D × Sto) → R (O × Sto)
  | .ok (v, s) => kPut2 i e v (o e s) | .exc c => .exc c | .bad => .bad
@[simp] theorem kPut1_ok {o i : M} : kPut1 o i e (.ok (x, s)) = kPut2 i e x (o e s) := (rfl : _ = _).trans rfl
@[simp] theorem sPut_eq {o i v : M} : sPut o i v e s = kPut1 o i e (v e s) := by
  unfold sPut; rcases v e s with ⟨x, s⟩ | _ | _ <;> simp only [R.bind_ok, R.bind_exc, R.bind_bad, kPut1]
  rcases o e s with ⟨y, s⟩ | _ | _ <;> simp only [R.bind_ok, R.bind_exc, R.bind_bad, kPut2]
  rcases i e s with ⟨z, s⟩ | _ | _ <;> simp only [R.bind_ok, R.bind_exc, R.bind_bad, kPut3]
  cases y <;> simp only
  rename_i k
  cases putS s k z x <;> rfl
end
/-! a def -/
def kRun2 : Option D → R D
  | some d => .ok d | none => .bad
def kRun : R (O × Sto) → R D
  | .ok (.rt d, s) => kRun2 (frz 0 s d) | .ok (.nx _, _) => .ok .non | .ok _ => .bad | .exc c => .exc c | .bad => .bad
@[simp] theorem kRun2_some {d : D} : kRun2 (some d) = .ok d := (rfl : _ = _).trans rfl
@[simp] theorem kRun_rt {d : D} {s : Sto} : kRun (.ok (.rt d, s)) = kRun2 (frz 0 s d) := (rfl : _ = _).trans rfl
@[simp] theorem kRun_nx {e : Env} {s : Sto} : kRun (.ok (.nx e, s)) = .ok .non := (rfl : _ = _).trans rfl
@[simp] theorem kRun_exc {c} : kRun (.exc c) = .exc c := (rfl : _ = _).trans rfl
theorem run_eq (n : Nat) (b : S) (ds : List D) : run n b ds = kRun (b (ent n ds) []) := by
  unfold run runG fin kRun; rcases b (ent n ds) [] with ⟨o, s⟩ | _ | _ <;> simp
  cases o <;> simp
  rename_i d
  cases frz 0 s d <;> rfl
def kRunG2 (s : Sto) : Option D → R (D × Sto)
  | some d => .ok (d, s) | none => .bad
def kRunG (n : Nat) : R (O × Sto) → R (D × Sto)
  | .ok (.rt d, s) => kRunG2 (s.take n) (frz n s d) | .ok (.nx _, s) => .ok (.non, s.take n) | .ok _ => .bad | .exc c => .exc c | .bad => .bad
@[simp] theorem kRunG2_some {d : D} {s : Sto} : kRunG2 s (some d) = .ok (d, s) := (rfl : _ = _).trans rfl
@[simp] theorem kRunG_rt {n : Nat} {d : D} {s : Sto} : kRunG n (.ok (.rt d, s)) = kRunG2 (s.take n) (frz n s d) := (rfl : _ = _).trans rfl
@[simp] theorem kRunG_nx {n : Nat} {e : Env} {s : Sto} : kRunG n (.ok (.nx e, s)) = .ok (.non, s.take n) := (rfl : _ = _).trans rfl
theorem runG_eq (n : Nat) (b : S) (ds : List D) (s : Sto) : runG n b ds s = kRunG s.length (b (ent n ds) s) := by
  unfold runG fin kRunG; rcases b (ent n ds) s with ⟨o, s2⟩ | _ | _ <;> simp
  cases o <;> simp
  rename_i d
  cases frz s.length s2 d <;> rfl
@[simp] theorem ent_1 (n : Nat) (a : D) (ds : List D) : ent n (a :: ds) = some a :: ent (n - 1) ds := by
  unfold ent; rw [List.map_cons, List.cons_append, List.length_cons, Nat.sub_sub, Nat.add_comm 1]
@[simp] theorem ent_0 (n : Nat) : ent n [] = List.replicate n none := by simp [ent]
end Mini
end
section
/-! Lm: lemmas about the pure evaluator's loops -/
namespace Mini
theorem lcF_map {i : Nat} {m : M} {e : Env} {s : Sto} (f : D → D) : ∀ ds : List D, (∀ d ∈ ds, m (e.set i (some d)) s = .ok (f d, s) ∧ chk s [f d] = true) → lcF i tYes m e ds s = .ok (ds.map f, s)
  | [], _ => rfl
  | d :: ds, h => by
    obtain ⟨h1, h2⟩ := h d List.mem_cons_self
    have ih := lcF_map f ds fun d hd => h d (List.mem_cons_of_mem _ hd)
    have h2' : chk s [f d] = true := h2
    simp only [lcF, tYes, R.nox_ok, R.bind_ok, if_true, h1, h2', ih, List.map_cons]
/-- the same over indices -/
theorem lcF_idx {i : Nat} {m : M} {e : Env} {s : Sto} {α : Type} (g : α → D) (f : α → D) : ∀ xs : List α, (∀ x ∈ xs, m (e.set i (some (g x))) s = .ok (f x, s) ∧ chk s [f x] = true) → lcF i tYes m e (xs.map g) s = .ok (xs.map f, s)
  | [], _ => rfl
  | x :: xs, h => by
    obtain ⟨h1, h2⟩ := h x List.mem_cons_self
    have ih := lcF_idx g f xs fun d hd => h d (List.mem_cons_of_mem _ hd)
    have h2' : chk s [f x] = true := h2
    simp only [List.map_cons, lcF, tYes, R.nox_ok, R.bind_ok, if_true, h1, h2', ih]
/-- a loop by its invariant -/
theorem forF_inv {i : Nat} {b : S} (I : Nat → Env → Sto → Prop) : ∀ (ds : List D) (j : Nat) (e : Env) (s : Sto), I j e s →
    (∀ k e s d, I (j + k) e s → ds[k]? = some d → ∃ e' s', (b (e.set i (some d)) s = .ok (.nx e', s') ∨ b (e.set i (some d)) s = .ok (.ct e', s')) ∧ I (j + k + 1) e' s') →
    ∃ e' s', forF i b ds e s = .ok (.nx e', s') ∧ I (j + ds.length) e' s'
  | [], j, e, s, h, _ => ⟨e, s, rfl, h⟩
  | d :: ds, j, e, s, h, st => by
    obtain ⟨e', s', hb, h'⟩ := st 0 e s d h rfl
    obtain ⟨e2, s2, h2, h3⟩ := forF_inv I ds (j + 1) e' s' h' fun k e s d hi hd => by
      have e1 : j + 1 + k = j + (k + 1) := by omega
      rw [e1] at hi ⊢
      exact st (k + 1) e s d hi (by simpa using hd)
    refine ⟨e2, s2, ?_, by rw [List.length_cons, show j + (ds.length + 1) = j + 1 + ds.length by omega]; exact h3⟩
    rcases hb with hb | hb <;> simp only [forF, hb, R.bind_ok, h2]
theorem rng_len (lo : Int) (n : Nat) : (rng lo n).length = n := by simp [rng]
theorem rng_at {lo : Int} {n k : Nat} {d : D} (h : (rng lo n)[k]? = some d) : k < n ∧ d = .int (lo + (k : Int)) := by
  unfold rng at h
  rw [List.getElem?_map] at h
  obtain ⟨j, hj, rfl⟩ := Option.map_eq_some_iff.mp h
  obtain ⟨h1, h2⟩ := List.getElem?_eq_some_iff.mp hj
  simp at h1 h2
  subst h2
  exact ⟨h1, rfl⟩
theorem pos_nat {n k : Nat} (h : k < n) : pos n (k : Int) = some k := by simp [pos, h]
theorem opIx_str_nat (s : Sto) (z : List Nat) (k : Nat) (h1 : k < z.length) (hl : z.length ≤ 16777216) : opIx s (.str z) (.int (k : Int)) = some (.str [at0 z k]) := by
  rw [opIx_str s z k (by omega) (by omega) hl]
  simp
theorem strs_map {α : Type} (f : α → List Nat) : ∀ xs : List α, zstrs (xs.map fun x => .str (f x)) = some (xs.map f)
  | [] => rfl
  | x :: xs => by simp only [List.map_cons, zstrs, strs_map f xs]; rfl
theorem ints_map {α : Type} (f : α → Int) : ∀ xs : List α, zints (xs.map fun x => .int (f x)) = some (xs.map f)
  | [] => rfl
  | x :: xs => by simp only [List.map_cons, zints, ints_map f xs]; rfl
theorem bls_map {α : Type} (f : α → Bool) : ∀ xs : List α, bls (xs.map fun x => .bl (f x)) = some (xs.map f)
  | [] => rfl
  | x :: xs => by simp only [List.map_cons, bls, bls_map f xs]; rfl
theorem glue_nil : ∀ xs : List (List Nat), glue [] xs = xs.flatten
  | [] => rfl
  | [x] => by simp [glue]
  | x :: y :: r => by
    have := glue_nil (y :: r)
    simp only [glue, this]
    simp
theorem glue_one {α : Type} (f : α → Nat) (xs : List α) : glue [] (xs.map fun x => [f x]) = xs.map f := by
  rw [glue_nil]
  induction xs with
  | nil => rfl
  | cons x xs ih => simp [ih]
theorem sum_one {α : Type} (f : α → List Nat) (xs : List α) (h : ∀ x ∈ xs, (f x).length = 1) : ((xs.map f).map (·.length)).sum = xs.length := by
  induction xs with
  | nil => rfl
  | cons x xs ih =>
    simp only [List.map_cons, List.sum_cons, List.length_cons]
    rw [h x List.mem_cons_self, ih fun y hy => h y (List.mem_cons_of_mem _ hy)]
    omega
/-- join of one-sign texts -/
theorem join_signs {α : Type} (f : α → Nat) (xs : List α) (h : xs.length ≤ 16777216) : joinD [] (.lst (xs.map fun x => .str [f x])) = some (.str (xs.map f)) := by
  simp only [joinD, strs_map fun x => [f x], Option.bind_some]
  rw [if_pos, glue_one]
  rw [sum_one _ _ fun _ _ => rfl]
  simp
  exact h
end Mini
end
section
/-! Sound: Mini's combinators against the hand layer. -/
namespace Snd
open PySem L2

/-- the heap without what is protected or owned -/
def imm (H : Hp) (P α : List Addr) : Hp := fun b => if b ∈ P ∨ b ∈ α then none else H b
theorem imm_some {H : Hp} {P α : List Addr} {b : Addr} {o : HO} : imm H P α b = some o ↔ b ∉ P ∧ b ∉ α ∧ H b = some o := by
  unfold imm
  split
  · rename_i h
    constructor
    · intro q; cases q
    · rintro ⟨h1, h2, _⟩
      exact (h.elim h1 h2).elim
  · rename_i h
    constructor
    · intro q
      exact ⟨fun z => h (.inl z), fun z => h (.inr z), q⟩
    · exact fun q => q.2.2
def Ext (G G' : Hp) : Prop := ∀ b o, G b = some o → G' b = some o
theorem Ext.refl (G : Hp) : Ext G G := fun _ _ h => h
theorem Ext.trans {G G' G2 : Hp} (a : Ext G G') (b : Ext G' G2) : Ext G G2 := fun c o h => b c o (a c o h)
theorem imm_sub (H : Hp) (P α : List Addr) : Ext (imm H P α) H := fun b o h => (imm_some.mp h).2.2
theorem Ext.sqL {K : PySem.W.Frag} {G G' : Hp} {a : Addr} {xs : List V} (e : Ext G G') (h : SqL K G a xs) : SqL K G' a xs := by
  rcases h with (h | ⟨o, h⟩) | h
  · exact .inl (.inl (e _ _ h))
  · exact .inl (.inr ⟨o, e _ _ h⟩)
  · exact .inr h

mutual
/-- d stands at v -/
def Dr (K : PySem.W.Frag) (G : Hp) : List Addr → Mini.D → V → Prop
  | _, .non, v => v = .non
  | _, .bl b, v => v = .bl b
  | _, .int i, v => v = .int i
  | _, .str s, v => v = .str ⟨s.toArray⟩
  | α, .tup ds, v => ∃ a xs, v = .ref a ∧ G a = some (.tup xs) ∧ DrL K G α ds xs
  | _, .lst ds, v => ∃ a xs, v = .ref a ∧ G a = some (.lst xs) ∧ DrL K G [] ds xs
  | _, .scr ns, v => ∃ a, v = .ref a ∧ SqL K G a (ns.map V.int)
  | α, .own k, v => ∃ a, α[k]? = some a ∧ v = .ref a
  | _, .dic n, v => ∃ a kvs, v = .ref a ∧ G a = some (.dT kvs) ∧ kvs.length = n
def DrL (K : PySem.W.Frag) (G : Hp) : List Addr → List Mini.D → List V → Prop
  | _, [], [] => True
  | α, d :: ds, v :: vs => Dr K G α d v ∧ DrL K G α ds vs
  | _, _, _ => False
end
section
variable {K : PySem.W.Frag} {G G' : Hp}
theorem drL_iff {α : List Addr} : ∀ {ds : List Mini.D} {xs : List V}, DrL K G α ds xs ↔ ds.length = xs.length ∧ ∀ (i : Nat) d x, ds[i]? = some d → xs[i]? = some x → Dr K G α d x
  | [], [] => by simp [DrL]
  | [], x :: xs => by simp [DrL]
  | d :: ds, [] => by simp [DrL]
  | d :: ds, x :: xs => by
    rw [DrL, drL_iff (ds := ds) (xs := xs)]
    constructor
    · rintro ⟨h1, h2, h3⟩
      refine ⟨by simp [h2], fun i e y he hy => ?_⟩
      cases i with
      | zero => simp at he hy; subst he; subst hy; exact h1
      | succ i => exact h3 i e y (by simpa using he) (by simpa using hy)
    · rintro ⟨h1, h2⟩
      exact ⟨h2 0 d x rfl rfl, by simpa using h1, fun i e y he hy => h2 (i + 1) e y (by simpa using he) (by simpa using hy)⟩
theorem DrL.len {α : List Addr} {ds : List Mini.D} {xs : List V} (h : DrL K G α ds xs) : ds.length = xs.length := (drL_iff.mp h).1
theorem DrL.at {α : List Addr} {ds : List Mini.D} {xs : List V} (h : DrL K G α ds xs) {i : Nat} {d : Mini.D} (e : ds[i]? = some d) : ∃ x, xs[i]? = some x ∧ Dr K G α d x := by
  have hl := h.len
  have hi : i < xs.length := by rw [← hl]; exact (List.getElem?_eq_some_iff.mp e).1
  exact ⟨xs[i], List.getElem?_eq_getElem hi, (drL_iff.mp h).2 i d _ e (List.getElem?_eq_getElem hi)⟩
mutual
theorem Dr.mono {α α' : List Addr} (e : Ext G G') (p : ∀ (k : Nat) a, α[k]? = some a → α'[k]? = some a) : ∀ {d : Mini.D} {v : V}, Dr K G α d v → Dr K G' α' d v
  | .non, v, h => by simpa [Dr] using h
  | .bl b, v, h => by simpa [Dr] using h
  | .int i, v, h => by simpa [Dr] using h
  | .str s, v, h => by simpa [Dr] using h
  | .tup ds, v, h => by
    rw [Dr] at h ⊢
    obtain ⟨a, xs, h1, h2, h3⟩ := h
    exact ⟨a, xs, h1, e _ _ h2, DrL.mono e p h3⟩
  | .lst ds, v, h => by
    rw [Dr] at h ⊢
    obtain ⟨a, xs, h1, h2, h3⟩ := h
    exact ⟨a, xs, h1, e _ _ h2, DrL.mono e (fun _ _ q => q) h3⟩
  | .scr ns, v, h => by
    rw [Dr] at h ⊢
    obtain ⟨a, h1, h2⟩ := h
    exact ⟨a, h1, e.sqL h2⟩
  | .own k, v, h => by
    rw [Dr] at h ⊢
    obtain ⟨a, h1, h2⟩ := h
    exact ⟨a, p k a h1, h2⟩
  | .dic n, v, h => by
    rw [Dr] at h ⊢
    obtain ⟨a, kvs, h1, h2, h3⟩ := h
    exact ⟨a, kvs, h1, e _ _ h2, h3⟩
theorem DrL.mono {α α' : List Addr} (e : Ext G G') (p : ∀ (k : Nat) a, α[k]? = some a → α'[k]? = some a) : ∀ {ds : List Mini.D} {vs : List V}, DrL K G α ds vs → DrL K G' α' ds vs
  | [], [], h => by simp [DrL]
  | [], _ :: _, h => by simp [DrL] at h
  | _ :: _, [], h => by simp [DrL] at h
  | d :: ds, v :: vs, h => by
    rw [DrL] at h ⊢
    exact ⟨Dr.mono e p h.1, DrL.mono e p h.2⟩
end
mutual
theorem Dr.free {α α' : List Addr} : ∀ {d : Mini.D} {v : V}, Mini.free d = true → Dr K G α d v → Dr K G α' d v
  | .non, v, _, h => by simpa [Dr] using h
  | .bl b, v, _, h => by simpa [Dr] using h
  | .int i, v, _, h => by simpa [Dr] using h
  | .str s, v, _, h => by simpa [Dr] using h
  | .tup ds, v, f, h => by
    rw [Dr] at h ⊢
    obtain ⟨a, xs, h1, h2, h3⟩ := h
    exact ⟨a, xs, h1, h2, DrL.free (by simpa [Mini.free] using f) h3⟩
  | .lst ds, v, _, h => by rw [Dr] at h ⊢; exact h
  | .scr ns, v, _, h => by rw [Dr] at h ⊢; exact h
  | .own k, v, f, h => by simp [Mini.free] at f
  | .dic n, v, _, h => by rw [Dr] at h ⊢; exact h
theorem DrL.free {α α' : List Addr} : ∀ {ds : List Mini.D} {vs : List V}, Mini.freeL ds = true → DrL K G α ds vs → DrL K G α' ds vs
  | [], [], _, h => by simp [DrL]
  | [], _ :: _, _, h => by simp [DrL] at h
  | _ :: _, [], _, h => by simp [DrL] at h
  | d :: ds, v :: vs, f, h => by
    rw [DrL] at h ⊢
    have f' : Mini.free d = true ∧ Mini.freeL ds = true := by simpa [Mini.freeL] using f
    exact ⟨Dr.free f'.1 h.1, DrL.free f'.2 h.2⟩
end
theorem DrL.nil_any {α : List Addr} {ds : List Mini.D} {vs : List V} (h : DrL K G [] ds vs) : DrL K G α ds vs := DrL.mono (Ext.refl G) (fun k a q => by simp at q) h
theorem Dr.nil_any {α : List Addr} {ds : Mini.D} {vs : V} (h : Dr K G [] ds vs) : Dr K G α ds vs := Dr.mono (Ext.refl G) (fun k a q => by simp at q) h
theorem DrL.append {α : List Addr} {ds es : List Mini.D} {vs us : List V} (h : DrL K G α ds vs) (h' : DrL K G α es us) : DrL K G α (ds ++ es) (vs ++ us) := by
  rw [drL_iff] at h h' ⊢
  refine ⟨by simp [h.1, h'.1], fun i d x hd hx => ?_⟩
  by_cases hi : i < ds.length
  · rw [List.getElem?_append_left hi] at hd
    rw [List.getElem?_append_left (by omega)] at hx
    exact h.2 i d x hd hx
  · rw [List.getElem?_append_right (by omega)] at hd hx
    rw [← h.1] at hx
    exact h'.2 _ d x hd hx
theorem DrL.take {α : List Addr} {ds : List Mini.D} {vs : List V} (h : DrL K G α ds vs) (n : Nat) : DrL K G α (ds.take n) (vs.take n) := by
  rw [drL_iff] at h ⊢
  refine ⟨by simp [h.1], fun i d x hd hx => ?_⟩
  rw [List.getElem?_take] at hd hx
  split at hd <;> simp_all
  exact h.2 i d x hd hx
theorem DrL.drop {α : List Addr} {ds : List Mini.D} {vs : List V} (h : DrL K G α ds vs) (n : Nat) : DrL K G α (ds.drop n) (vs.drop n) := by
  rw [drL_iff] at h ⊢
  refine ⟨by simp [h.1], fun i d x hd hx => ?_⟩
  rw [List.getElem?_drop] at hd hx
  exact h.2 _ d x hd hx
theorem DrL.set {α : List Addr} {ds : List Mini.D} {vs : List V} (h : DrL K G α ds vs) (n : Nat) {d : Mini.D} {v : V} (hd : Dr K G α d v) : DrL K G α (ds.set n d) (vs.set n v) := by
  rw [drL_iff] at h ⊢
  refine ⟨by simp [h.1], fun i e x he hx => ?_⟩
  rw [List.getElem?_set] at he hx
  split at he
  · rename_i q
    subst q
    rw [if_pos rfl] at hx
    split at he
    · split at hx
      · cases he; cases hx; exact hd
      · cases hx
    · cases he
  · rename_i q
    rw [if_neg q] at hx
    exact h.2 i e x he hx
theorem DrL.reverse {α : List Addr} {ds : List Mini.D} {vs : List V} (h : DrL K G α ds vs) : DrL K G α ds.reverse vs.reverse := by
  rw [drL_iff] at h ⊢
  refine ⟨by simp [h.1], fun i d x hd hx => ?_⟩
  have hi : i < ds.length := by
    have := (List.getElem?_eq_some_iff.mp hd).1
    simpa using this
  rw [List.getElem?_reverse hi] at hd
  rw [List.getElem?_reverse (by omega)] at hx
  rw [← h.1] at hx
  exact h.2 _ d x hd hx
theorem DrL.dropLast {α : List Addr} {ds : List Mini.D} {vs : List V} (h : DrL K G α ds vs) : DrL K G α ds.dropLast vs.dropLast := by
  rw [List.dropLast_eq_take, List.dropLast_eq_take, h.len]
  exact h.take _
theorem DrL.rep {α : List Addr} {ds : List Mini.D} {vs : List V} (h : DrL K G α ds vs) : ∀ n : Nat, DrL K G α (List.replicate n ds).flatten (List.replicate n vs).flatten
  | 0 => by simp [DrL]
  | n + 1 => by
    simp only [List.replicate_succ, List.flatten_cons]
    exact h.append (DrL.rep h n)
theorem DrL.ofInts {α : List Addr} : ∀ (ns : List Int), DrL K G α (ns.map .int) (ns.map V.int)
  | [] => by simp [DrL]
  | n :: ns => by
    simp only [List.map_cons, DrL]
    exact ⟨by simp [Dr], DrL.ofInts ns⟩
theorem DrL.zints {α : List Addr} : ∀ {ds : List Mini.D} {vs : List V} {ns : List Int}, DrL K G α ds vs → Mini.zints ds = some ns → vs = ns.map V.int
  | [], [], ns, _, h => by simp [Mini.zints] at h; subst h; rfl
  | [], _ :: _, _, h, _ => by simp [DrL] at h
  | _ :: _, [], _, h, _ => by simp [DrL] at h
  | d :: ds, v :: vs, ns, h, e => by
    rw [DrL] at h
    cases d <;> simp [Mini.zints] at e
    obtain ⟨ms, h1, h2⟩ := e
    subst h2
    have := DrL.zints h.2 h1
    have h0 := h.1
    rw [Dr] at h0
    simp [this, h0]
theorem DrL.bls {α : List Addr} : ∀ {ds : List Mini.D} {vs : List V} {ns : List Bool}, DrL K G α ds vs → Mini.bls ds = some ns → vs = ns.map V.bl
  | [], [], ns, _, h => by simp [Mini.bls] at h; subst h; rfl
  | [], _ :: _, _, h, _ => by simp [DrL] at h
  | _ :: _, [], _, h, _ => by simp [DrL] at h
  | d :: ds, v :: vs, ns, h, e => by
    rw [DrL] at h
    cases d <;> simp [Mini.bls] at e
    obtain ⟨ms, h1, h2⟩ := e
    subst h2
    have := DrL.bls h.2 h1
    have h0 := h.1
    rw [Dr] at h0
    simp [this, h0]
theorem DrL.zstrs {α : List Addr} : ∀ {ds : List Mini.D} {vs : List V} {ns : List (List Nat)}, DrL K G α ds vs → Mini.zstrs ds = some ns → vs = ns.map fun z => V.str ⟨z.toArray⟩
  | [], [], ns, _, h => by simp [Mini.zstrs] at h; subst h; rfl
  | [], _ :: _, _, h, _ => by simp [DrL] at h
  | _ :: _, [], _, h, _ => by simp [DrL] at h
  | d :: ds, v :: vs, ns, h, e => by
    rw [DrL] at h
    cases d <;> simp [Mini.zstrs] at e
    obtain ⟨ms, h1, h2⟩ := e
    subst h2
    have := DrL.zstrs h.2 h1
    have h0 := h.1
    rw [Dr] at h0
    simp [this, h0]
end

/-! ### states -/
def ObR (K : PySem.W.Frag) (G : Hp) : Mini.Ob → Option HO → Prop
  | .L ds, o => ∃ xs, o = some (.lst xs) ∧ DrL K G [] ds xs
  | .DI ks, o => o = some (.dK (ks.map fun k => (Sum.inl k, V.bl true)))
  | .DT ks, o => o = some (.dT (ks.map fun k => (k.map Sum.inl, V.bl true)))
structure StR (K : PySem.W.Frag) (P α : List Addr) (s : Mini.Sto) (H : Hp) : Prop where
  nd : α.Nodup
  dis : ∀ a ∈ α, a ∉ P
  pt : ∀ b ∈ P, H b ≠ none
  len : s.length = α.length
  ob : ∀ (k : Nat) o a, s[k]? = some o → α[k]? = some a → ObR K (imm H P α) o (H a)
structure Gr (P α : List Addr) (H : Hp) (α' : List Addr) (H' : Hp) : Prop where
  pre : ∀ (k : Nat) a, α[k]? = some a → α'[k]? = some a
  ext : Ext (imm H P α) (imm H' P α')
  keep : ∀ b ∈ P, ∀ o, H b = some o → H' b = some o
theorem Gr.refl (P α : List Addr) (H : Hp) : Gr P α H α H := ⟨fun _ _ h => h, Ext.refl _, fun _ _ _ h => h⟩
theorem Gr.trans {P α α' α2 : List Addr} {H H' H2 : Hp} (a : Gr P α H α' H') (b : Gr P α' H' α2 H2) : Gr P α H α2 H2 :=
  ⟨fun k x h => b.pre k x (a.pre k x h), a.ext.trans b.ext, fun c hc o h => b.keep c hc o (a.keep c hc o h)⟩
section
variable {K : PySem.W.Frag} {P α α' : List Addr} {s : Mini.Sto} {H H' : Hp}
theorem Gr.dr (g : Gr P α H α' H') {d : Mini.D} {v : V} (h : Dr K (imm H P α) α d v) : Dr K (imm H' P α') α' d v := Dr.mono g.ext g.pre h
theorem Gr.drL (g : Gr P α H α' H') {d : List Mini.D} {v : List V} (h : DrL K (imm H P α) α d v) : DrL K (imm H' P α') α' d v := DrL.mono g.ext g.pre h
theorem ObR.some_of {G : Hp} {o : Mini.Ob} {x : Option HO} (h : ObR K G o x) : x ≠ none := by
  cases o with
  | L ds => obtain ⟨xs, rfl, _⟩ := h; simp
  | DI ks => rw [ObR] at h; rw [h]; simp
  | DT ks => rw [ObR] at h; rw [h]; simp
theorem ObR.mono {G G' : Hp} {o : Mini.Ob} {x : Option HO} (e : Ext G G') (h : ObR K G o x) : ObR K G' o x := by
  cases o with
  | L ds => obtain ⟨xs, h1, h2⟩ := h; exact ⟨xs, h1, DrL.mono e (fun _ _ q => q) h2⟩
  | DI ks => exact h
  | DT ks => exact h
theorem StR.there (h : StR K P α s H) {a : Addr} (ha : a ∈ α) : H a ≠ none := by
  obtain ⟨k, hk, e⟩ := List.getElem_of_mem ha
  have hk' : k < s.length := by rw [h.len]; exact hk
  exact (h.ob k s[k] a (List.getElem?_eq_getElem hk') (by rw [List.getElem?_eq_getElem hk, e])).some_of
/-- a new object -/
theorem StR.new (h : StR K P α s H) {p : Addr} {o : HO} (hp : H p = none) : Gr P α H α (upd H p o) ∧ StR K P α s (upd H p o) ∧ imm (upd H p o) P α p = some o := by
  have n1 : p ∉ P := fun z => h.pt p z hp
  have n2 : p ∉ α := fun z => h.there z hp
  have e : Ext (imm H P α) (imm (upd H p o) P α) := fun b u q => by
    rw [imm_some] at q ⊢
    exact ⟨q.1, q.2.1, by rw [upd_ne (ne_of_none q.2.2 hp)]; exact q.2.2⟩
  refine ⟨⟨fun _ _ q => q, e, fun b hb u q => by rw [upd_ne (ne_of_none q hp)]; exact q⟩, ⟨h.nd, h.dis, fun b hb => ?_, h.len, fun k u a h1 h2 => ?_⟩, imm_some.mpr ⟨n1, n2, upd_same⟩⟩
  · rw [upd_ne (show b ≠ p from fun z => n1 (z ▸ hb))]
    exact h.pt b hb
  · have ha : a ∈ α := List.mem_of_getElem? h2
    rw [upd_ne (show a ≠ p from fun z => n2 (z ▸ ha))]
    exact (h.ob k u a h1 h2).mono e
theorem StR.chk (h : StR K P α s H) {ds : List Mini.D} {xs : List V} {G : Hp} (c : Mini.chk s ds = true) (r : DrL K G α ds xs) : DrL K G [] ds xs := by
  unfold Mini.chk at c
  rw [Bool.or_eq_true] at c
  rcases c with c | c
  · have e : s = [] := by simpa using c
    have : α = [] := by
      have := h.len
      rw [e] at this
      exact List.eq_nil_of_length_eq_zero this.symm
    rw [this] at r
    exact r
  · exact DrL.free c r
def EnvR (K : PySem.W.Frag) (G : Hp) (α : List Addr) (e : Mini.Env) (σ : L2.St) : Prop := e.length = σ.length ∧ ∀ (i : Nat) d, e[i]? = some (some d) → ∃ v, σ[i]? = some (some v) ∧ Dr K G α d v
structure SR (K : PySem.W.Frag) (P α : List Addr) (e : Mini.Env) (s : Mini.Sto) (σ : L2.St) (H : Hp) : Prop where
  st : StR K P α s H
  env : EnvR K (imm H P α) α e σ
theorem EnvR.gr {e : Mini.Env} {σ : L2.St} (h : EnvR K (imm H P α) α e σ) (g : Gr P α H α' H') : EnvR K (imm H' P α') α' e σ :=
  ⟨h.1, fun i d q => let ⟨v, h1, h2⟩ := h.2 i d q; ⟨v, h1, g.dr h2⟩⟩
theorem SR.gr {e : Mini.Env} {σ : L2.St} {s' : Mini.Sto} (h : SR K P α e s σ H) (g : Gr P α H α' H') (h' : StR K P α' s' H') : SR K P α' e s' σ H' := ⟨h', h.env.gr g⟩
theorem EnvR.set {G : Hp} {e : Mini.Env} {σ : L2.St} (h : EnvR K G α e σ) {i : Nat} {d : Mini.D} {v : V} (hd : Dr K G α d v) : EnvR K G α (e.set i (some d)) (σ.set i (some v)) := by
  refine ⟨by simp [h.1], fun j d' q => ?_⟩
  by_cases hj : i = j
  · subst hj
    rw [List.getElem?_set] at q
    simp only [if_true] at q
    split at q
    · rename_i hlt
      cases q
      exact ⟨v, by rw [List.getElem?_set]; simp [← h.1, hlt], hd⟩
    · cases q
  · rw [List.getElem?_set_ne hj] at q
    obtain ⟨w, h1, h2⟩ := h.2 j d' q
    exact ⟨w, by rw [List.getElem?_set_ne hj]; exact h1, h2⟩
theorem SR.set {e : Mini.Env} {σ : L2.St} (h : SR K P α e s σ H) {i : Nat} {d : Mini.D} {v : V} (hd : Dr K (imm H P α) α d v) : SR K P α (e.set i (some d)) s (σ.set i (some v)) H := ⟨h.st, h.env.set hd⟩
end

/-! ### what is wanted of a run -/
abbrev XC := Nat → Option Addr → Hp → Prop
def E00 : XC := fun _ _ _ => False
def Post (K : PySem.W.Frag) (E : XC) (P α : List Addr) (H : Hp) {β : Type} (r : Mini.R (β × Mini.Sto)) (k : β → Mini.Sto → List Addr → Hp → Prop) : Prop :=
  match r with
  | .ok p => ∀ α' H', Gr P α H α' H' → StR K P α' p.2 H' → k p.1 p.2 α' H'
  | .exc c => ∀ oe α' H', Gr P α H α' H' → E c oe H'
  | .bad => False
section
variable {K : PySem.W.Frag} {E : XC} {P α α' : List Addr} {s : Mini.Sto} {H H' : Hp} {β γ : Type}
theorem Post.later {r : Mini.R (β × Mini.Sto)} {k : β → Mini.Sto → List Addr → Hp → Prop} (h : Post K E P α H r k) (g : Gr P α H α' H') : Post K E P α' H' r k := by
  cases r with
  | ok p => exact fun α2 H2 g2 s2 => h α2 H2 (g.trans g2) s2
  | exc c => exact fun oe α2 H2 g2 => h oe α2 H2 (g.trans g2)
  | bad => exact h
theorem Post.unbind {r : Mini.R (β × Mini.Sto)} {f : β × Mini.Sto → Mini.R (γ × Mini.Sto)} {k : γ → Mini.Sto → List Addr → Hp → Prop} (h : Post K E P α H (r.bind f) k) :
    Post K E P α H r fun d s1 α1 H1 => Post K E P α1 H1 (f (d, s1)) k := by
  cases r with
  | ok p => exact fun α1 H1 g1 s1 => Post.later (r := f p) h g1
  | exc c => exact h
  | bad => exact h
theorem Post.imp {r : Mini.R (β × Mini.Sto)} {k k' : β → Mini.Sto → List Addr → Hp → Prop} (h : Post K E P α H r k) (f : ∀ d s1 α1 H1, Gr P α H α1 H1 → StR K P α1 s1 H1 → k d s1 α1 H1 → k' d s1 α1 H1) : Post K E P α H r k' := by
  cases r with
  | ok p => exact fun α1 H1 g1 s1 => f _ _ _ _ g1 s1 (h α1 H1 g1 s1)
  | exc c => exact h
  | bad => exact h
theorem Post.here {d : β} {k : β → Mini.Sto → List Addr → Hp → Prop} (h : Post K E P α H (.ok (d, s)) k) (hs : StR K P α s H) : k d s α H := h α H (Gr.refl _ _ _) hs
/-- a part that is not covered -/
theorem Post.unof {o : Option β} {f : β → Mini.R (γ × Mini.Sto)} {k : γ → Mini.Sto → List Addr → Hp → Prop} (h : Post K E P α H ((Mini.R.of o).bind f) k) : ∃ x, o = some x ∧ Post K E P α H (f x) k := by
  cases o with
  | none => exact h.elim
  | some x => exact ⟨x, rfl, h⟩
theorem Post.unite {c : Prop} [Decidable c] {r : Mini.R (γ × Mini.Sto)} {k : γ → Mini.Sto → List Addr → Hp → Prop} (h : Post K E P α H (if c then r else .bad) k) : c ∧ Post K E P α H r k := by
  split at h
  · rename_i hc; exact ⟨hc, h⟩
  · exact h.elim
end

/-! ### the readings -/
section
variable (K : PySem.W.Frag) (E : XC)
def tM (m : Mini.M) : TE := fun σ H Q => ∃ P α e s, SR K P α e s σ H ∧ Post K E P α H (m e s) fun d s' α' H' => ∀ v, Dr K (imm H' P α') α' d v → Q v H'
def tT (m : Mini.T) : TT := fun σ H Q => ∃ P α e s, SR K P α e s σ H ∧ Post K E P α H (m e s) fun b s' α' H' => Q b H'
def tA (m : Mini.A) : TA := fun σ H Q => ∃ P α e s, SR K P α e s σ H ∧ Post K E P α H (m e s) fun d s' α' H' => ∀ v, DrL K (imm H' P α') α' d v → Q v H'
def tO (m : Mini.PO) : TO := fun σ H Q => ∃ P α e s, SR K P α e s σ H ∧ Post K E P α H (m e s) fun b s' α' H' => Q b H'
def endK (P : List Addr) (D : Ends) : Mini.O → Mini.Sto → List Addr → Hp → Prop
  | .nx e, s, α, H => ∀ σ, SR K P α e s σ H → D.nx σ H
  | .bk e, s, α, H => ∀ σ, SR K P α e s σ H → D.bk σ H
  | .ct e, s, α, H => ∀ σ, SR K P α e s σ H → D.ct σ H
  | .rt d, s, α, H => ∀ v, Dr K (imm H P α) α d v → D.rt v H
def tS (m : Mini.S) : TS := fun D σ H => ∃ P α e s, SR K P α e s σ H ∧ Post K E P α H (m e s) (endK K P D)
end
theorem _root_.L2.PE.to {X : Cx} {e : Expr} {t t' : TE} (h : PE X e t) (c : ∀ σ H Q, t' σ H Q → t σ H Q) : PE X e t' := ⟨fun pins s σ H Q I q => h.run pins s σ H Q I (c _ _ _ q)⟩
theorem _root_.L2.PT.to {X : Cx} {e : Expr} {t t' : TT} (h : PT X e t) (c : ∀ σ H Q, t' σ H Q → t σ H Q) : PT X e t' := ⟨fun pins s σ H Q I q => h.run pins s σ H Q I (c _ _ _ q)⟩
theorem _root_.L2.PW.to {X : Cx} {e : Expr} {t t' : TT} (h : PW X e t) (c : ∀ σ H Q, t' σ H Q → t σ H Q) : PW X e t' := ⟨fun wh pins s σ H Q I q => h.run wh pins s σ H Q I (c _ _ _ q)⟩
theorem _root_.L2.PA.to {X : Cx} {e : List Expr} {t t' : TA} (h : PA X e t) (c : ∀ σ H Q, t' σ H Q → t σ H Q) : PA X e t' := ⟨fun pos pins s σ H Q I q => h.run pos pins s σ H Q I (c _ _ _ q)⟩
theorem _root_.L2.PO.to {X : Cx} {e : Option Expr} {t t' : TO} (h : L2.PO X e t) (c : ∀ σ H Q, t' σ H Q → t σ H Q) : L2.PO X e t' := by
  obtain ⟨r⟩ := h
  constructor
  intros
  apply r <;> first | assumption | (apply c; assumption)
theorem _root_.L2.PS.to {X : Cx} {e : Stmt} {t t' : TS} (h : PS X e t) (c : ∀ D σ H, t' D σ H → t D σ H) : PS X e t' := ⟨fun pins s σ H D I q => h.run pins s σ H D I (c _ _ _ q)⟩
theorem _root_.L2.PSs.to {X : Cx} {e : List Stmt} {t t' : TS} (h : PSs X e t) (c : ∀ D σ H, t' D σ H → t D σ H) : PSs X e t' := ⟨fun pins s σ H D I q => h.run pins s σ H D I (c _ _ _ q)⟩
theorem _root_.L2.PI.to {X : Cx} {tg e : Expr} {t t' : TI} (h : PI X tg e t) (c : ∀ σ H Q, t' σ H Q → t σ H Q) : PI X tg e t' := ⟨fun pins s σ H Q I q => h.run pins s σ H Q I (c _ _ _ q)⟩
theorem _root_.L2.PI.or {X : Cx} {tg e : Expr} {t t' : TI} (h : PI X tg e t) (h' : PI X tg e t') : PI X tg e (fun σ H R => t σ H R ∨ t' σ H R) :=
  ⟨fun pins s σ H Q I q => q.elim (h.run pins s σ H Q I) (h'.run pins s σ H Q I)⟩
end Snd
end
section
namespace Snd
open PySem L2

/-! ### seen in the whole heap -/
def DrH (K : PySem.W.Frag) (H G : Hp) (α : List Addr) : Mini.D → V → Prop
  | .tup ds, v => ∃ a xs, v = .ref a ∧ H a = some (.tup xs) ∧ DrL K G α ds xs
  | .lst ds, v => ∃ a xs, v = .ref a ∧ H a = some (.lst xs) ∧ DrL K G [] ds xs
  | .scr ns, v => ∃ a, v = .ref a ∧ SqL K H a (ns.map V.int)
  | .dic n, v => ∃ a kvs, v = .ref a ∧ H a = some (.dT kvs) ∧ kvs.length = n
  | d, v => Dr K G α d v
section
variable {K : PySem.W.Frag} {P α : List Addr} {s : Mini.Sto} {H : Hp}
theorem dr_drH {d : Mini.D} {v : V} (h : Dr K (imm H P α) α d v) : DrH K H (imm H P α) α d v := by
  cases d with
  | tup ds => rw [Dr] at h; obtain ⟨a, xs, h1, h2, h3⟩ := h; exact ⟨a, xs, h1, imm_sub _ _ _ _ _ h2, h3⟩
  | lst ds => rw [Dr] at h; obtain ⟨a, xs, h1, h2, h3⟩ := h; exact ⟨a, xs, h1, imm_sub _ _ _ _ _ h2, h3⟩
  | scr ns => rw [Dr] at h; obtain ⟨a, h1, h2⟩ := h; exact ⟨a, h1, (imm_sub _ _ _).sqL h2⟩
  | dic n => rw [Dr] at h; obtain ⟨a, kvs, h1, h2, h3⟩ := h; exact ⟨a, kvs, h1, imm_sub _ _ _ _ _ h2, h3⟩
  | _ => exact h
theorem own_ob (hs : StR K P α s H) {k : Nat} {v : V} {o : Mini.Ob} (h : Dr K (imm H P α) α (.own k) v) (e : s[k]? = some o) : ∃ a, α[k]? = some a ∧ v = .ref a ∧ ObR K (imm H P α) o (H a) := by
  rw [Dr] at h
  obtain ⟨a, h1, h2⟩ := h
  exact ⟨a, h1, h2, hs.ob k o a e h1⟩
theorem rz_dr (hs : StR K P α s H) {d : Mini.D} {v : V} (h : Dr K (imm H P α) α d v) : DrH K H (imm H P α) α (Mini.rz s d) v := by
  cases d with
  | own k =>
    cases e : s[k]? with
    | none => simp only [Mini.rz, e]; exact h
    | some o =>
      cases o with
      | L ds =>
        simp only [Mini.rz, e]
        obtain ⟨a, _, rfl, h4⟩ := own_ob hs h e
        obtain ⟨xs, h2, h3⟩ := h4
        exact ⟨a, xs, rfl, h2, h3⟩
      | DI ks => simp only [Mini.rz, e]; exact h
      | DT ks => simp only [Mini.rz, e]; exact h
  | _ => exact dr_drH h
end

section
variable {X : Cx} {E : XC} {a b : Expr} {pos : Pos}
theorem pm_v {i : Nat} {x : Str} (h : PE X (.Name x pos) (tVar i)) : PE X (.Name x pos) (tM X.K E (Mini.mV i)) := h.to fun σ H Q ⟨P, α, e, s, hS, q⟩ => by
  unfold Mini.mV at q
  split at q
  · rename_i d he
    obtain ⟨v, hv, hd⟩ := hS.env.2 i d he
    exact ⟨v, hv, q.here hS.st v hd⟩
  · exact q.elim
theorem pm_c {e : Expr} {d : Mini.D} {v : V} (h : PE X e (tC v)) (hd : ∀ G α, Dr X.K G α d v) : PE X e (tM X.K E (Mini.mC d)) := h.to fun σ H Q ⟨P, α, e, s, hS, q⟩ => q.here hS.st v (hd _ _)
theorem pm_int {i : Int} {j : Nat} : PE X (.Constant (.int i) j pos) (tM X.K E (Mini.mC (.int i))) := pm_c pe_int fun _ _ => by simp [Dr]
theorem pm_bl {i : Bool} {j : Nat} : PE X (.Constant (.bool i) j pos) (tM X.K E (Mini.mC (.bl i))) := pm_c pe_bl fun _ _ => by simp [Dr]
theorem pm_non {j : Nat} : PE X (.Constant .none j pos) (tM X.K E (Mini.mC .non)) := pm_c pe_non fun _ _ => by simp [Dr]
theorem pm_str {x : Str} {j : Nat} {z : List Nat} (hx : x = ⟨z.toArray⟩ := by decide +kernel) : PE X (.Constant (.str x) j pos) (tM X.K E (Mini.mC (.str z))) := pm_c pe_str fun _ _ => by simp [Dr, hx]
theorem pm_glob {x : Str} {z : List Nat} {t : Tok} (hg : Gl X x) (hm : X.mg x = some (.str ⟨z.toArray⟩ t)) (hd : (x == ("__debug__" : Str)) = false := by decide) : PE X (.Name x pos) (tM X.K E (Mini.mC (.str z))) :=
  pm_c (pe_glob (v := .str ⟨z.toArray⟩) hg hm ⟨_, rfl⟩ hd) fun _ _ => by simp [Dr]
theorem pm_globI {x : Str} {z : Int} {t : Tok} (hg : Gl X x) (hm : X.mg x = some (.int z t)) (hd : (x == ("__debug__" : Str)) = false := by decide) : PE X (.Name x pos) (tM X.K E (Mini.mC (.int z))) :=
  pm_c (pe_glob (v := .int z) hg hm ⟨_, rfl⟩ hd) fun _ _ => by simp [Dr]
/-- arguments -/
theorem am_nil : PA X [] (tA X.K E Mini.aNil) := pa_nil.to fun σ H Q ⟨P, α, e, s, hS, q⟩ => q.here hS.st [] (by simp [DrL])
theorem am_cons {e : Expr} {es : List Expr} {m : Mini.M} {ma : Mini.A} (h : PE X e (tM X.K E m)) (hr : PA X es (tA X.K E ma)) (hs : starEach (e :: es) X.env = (false, eval e X.env) :: starEach es X.env := by rfl) :
    PA X (e :: es) (tA X.K E (Mini.aCons m ma)) := (pa_cons h hr hs).to fun σ H Q ⟨P, α, e, s, hS, q⟩ =>
  ⟨P, α, e, s, hS, (Post.unbind q).imp fun d s1 α1 H1 g1 t1 q1 v hv => ⟨P, α1, e, s1, hS.gr g1 t1, (Post.unbind q1).imp fun ds s2 α2 H2 g2 t2 q2 vs hvs => q2.here t2 (v :: vs) (by rw [DrL]; exact ⟨g2.dr hv, hvs⟩)⟩⟩
theorem l100 {n : Nat} (h : n ≤ 100) : n ≤ sizeLine := Nat.le_trans h (by rw [sizeLine_eq]; decide)
theorem pm_tup {es : List Expr} {x1} {ma : Mini.A} (h : PA X es (tA X.K E ma)) : PE X (.Tuple es x1 pos) (tM X.K E (Mini.mTup ma)) := (pe_tup h).to fun σ H Q ⟨P, α, e, s, hS, q⟩ =>
  ⟨P, α, e, s, hS, (Post.unbind q).imp fun ds s1 α1 H1 g1 t1 q1 vs hvs => by
    obtain ⟨hc, q1⟩ := q1.unite
    refine ⟨l100 (by rw [← hvs.len]; exact hc), fun p hp => ?_⟩
    obtain ⟨g2, t2, hi⟩ := t1.new (o := .tup vs) hp
    refine q1 α1 _ g2 t2 _ ?_
    rw [Dr]
    exact ⟨p, vs, rfl, hi, g2.drL hvs⟩⟩
theorem pm_lst {es : List Expr} {ma : Mini.A} (h : PA X es (tA X.K E ma)) : PE X (.List es pos) (tM X.K E (Mini.mLst ma)) := (pe_lst h).to fun σ H Q ⟨P, α, e, s, hS, q⟩ =>
  ⟨P, α, e, s, hS, (Post.unbind q).imp fun ds s1 α1 H1 g1 t1 q1 vs hvs => by
    obtain ⟨⟨hc, hk⟩, q1⟩ := q1.unite
    refine ⟨l100 (by rw [← hvs.len]; exact hc), fun p hp => ?_⟩
    obtain ⟨g2, t2, hi⟩ := t1.new (o := .lst vs) hp
    refine q1 α1 _ g2 t2 _ ?_
    rw [Dr]
    exact ⟨p, vs, rfl, hi, DrL.mono g2.ext (fun _ _ q => q) (t1.chk hk hvs)⟩⟩

/-! ### two operands -/
/-- what follows a step that changes nothing owned -/
def Then (K : PySem.W.Frag) (P α : List Addr) (s : Mini.Sto) (H : Hp) (d : Mini.D) (Q : VK) : Prop := ∀ v H', Gr P α H α H' → StR K P α s H' → Dr K (imm H' P α) α d v → Q v H'
structure Sem2 (X : Cx) (f : Value → Value → Sem Value) (o : Mini.Op) (r : R2) : Prop where
  op : OpR X f r
  ok : ∀ {P α s H x y va vb d} {Q : VK}, StR X.K P α s H → Dr X.K (imm H P α) α x va → Dr X.K (imm H P α) α y vb → o s (Mini.rz s x) (Mini.rz s y) = some d → Then X.K P α s H d Q → r va vb H Q
theorem two {o : Mini.Op} {r : R2} {ma mb : Mini.M} {f : Value → Value → Sem Value} (S : Sem2 X f o r) : ∀ σ H Q, tM X.K E (Mini.mOp o ma mb) σ H Q → tOp r (tM X.K E ma) (tM X.K E mb) σ H Q :=
  fun σ H Q ⟨P, α, e, s, hS, q⟩ => ⟨P, α, e, s, hS, (Post.unbind q).imp fun d s1 α1 H1 g1 t1 q1 v hv => ⟨P, α1, e, s1, hS.gr g1 t1, (Post.unbind q1).imp fun d2 s2 α2 H2 g2 t2 q2 u hu => by
    obtain ⟨z, hz, q2⟩ := q2.unof
    exact S.ok t2 (g2.dr hv) hu hz fun w H3 g3 t3 hw => q2 α2 H3 g3 t3 w hw⟩⟩
theorem pm_op {op : Operator} {o : Mini.Op} {r : R2} {ma mb : Mini.M} (S : Sem2 X (binaryOp op) o r) (ha : PE X a (tM X.K E ma)) (hb : PE X b (tM X.K E mb)) : PE X (.BinOp a op b pos) (tM X.K E (Mini.mOp o ma mb)) := (pe_op S.op ha hb).to (two S)
theorem pm_cmp {op : CmpOp} {o : Mini.Op} {r : R2} {ma mb : Mini.M} (S : Sem2 X (compareOp op) o r) (ha : PE X a (tM X.K E ma)) (hb : PE X b (tM X.K E mb)) (hm : behindInMarks op b = false) : PE X (.Compare a [op] [b] pos) (tM X.K E (Mini.mOp o ma mb)) := (pe_cmpR S.op ha hb hm).to (two S)
theorem test_of {m : Mini.M} {t : TE} (h : ∀ σ H Q, tM X.K E m σ H Q → t σ H Q) : ∀ σ H Q, tT X.K E (Mini.tV m) σ H Q → tTest t σ H Q := fun σ H Q ⟨P, α, e, s, hS, q⟩ =>
  h σ H _ ⟨P, α, e, s, hS, (Post.unbind q).imp fun d s1 α1 H1 g1 t1 q1 v hv => by
    obtain ⟨z, hz, q1⟩ := q1.unof
    cases d <;> simp [Mini.isBl] at hz
    subst hz
    rw [Dr] at hv
    exact ⟨_, hv, q1.here t1⟩⟩
theorem tm_cmp {op : CmpOp} {o : Mini.Op} {r : R2} {ma mb : Mini.M} (S : Sem2 X (compareOp op) o r) (ha : PE X a (tM X.K E ma)) (hb : PE X b (tM X.K E mb)) (hm : behindInMarks op b = false) : PT X (.Compare a [op] [b] pos) (tT X.K E (Mini.tV (Mini.mOp o ma mb))) := (pt_cmpR S.op ha hb hm).to (test_of (two S))
theorem tm_val {e : Expr} {m : Mini.M} (h : PE X e (tM X.K E m)) (he : ∀ whole, isTrue e X.env whole = (do let v ← whole; standAt e.pos; holding [v] (truthy v)) := by intro _; rfl) : PT X e (tT X.K E (Mini.tV m)) :=
  (pt_val h he).to (test_of fun _ _ _ q => q)
theorem chain_of {o o' : Mini.Op} {r r' : R2} {ma mb mc : Mini.M} {f g : Value → Value → Sem Value} (S : Sem2 X f o r) (S' : Sem2 X g o' r') : ∀ σ H Q, tM X.K E (Mini.mChain o o' ma mb mc) σ H Q → tChain r r' (tM X.K E ma) (tM X.K E mb) (tM X.K E mc) σ H Q :=
  fun σ H Q ⟨P, α, e, s, hS, q⟩ => ⟨P, α, e, s, hS, (Post.unbind q).imp fun d s1 α1 H1 g1 t1 q1 v hv => ⟨P, α1, e, s1, hS.gr g1 t1, (Post.unbind q1).imp fun d2 s2 α2 H2 g2 t2 q2 u hu => by
    obtain ⟨z, hz, q2⟩ := q2.unof
    obtain ⟨y, hy, hz⟩ := Option.bind_eq_some_iff.mp hz
    cases y <;> simp [Mini.isBl] at hz
    subst hz
    refine S.ok t2 (g2.dr hv) hu hy fun w H3 g3 t3 hw => ?_
    rw [Dr] at hw
    refine ⟨_, hw, ?_⟩
    split
    · rename_i hk
      simp only [hk, if_true] at q2
      exact ⟨P, α2, e, s2, hS.gr (g1.trans (g2.trans g3)) t3, (Post.unbind (Post.later q2 g3)).imp fun d4 s4 α4 H4 g4 t4 q4 w4 hw4 => by
        obtain ⟨z4, hz4, q4⟩ := q4.unof
        exact S'.ok t4 (g4.dr (g3.dr hu)) hw4 hz4 fun w5 H5 g5 t5 hw5 => q4 α4 H5 g5 t5 w5 hw5⟩
    · rename_i hk
      rw [Bool.not_eq_true] at hk
      subst hk
      exact q2 α2 H3 g3 t3 (.bl false) (by simp [Dr])⟩⟩
theorem pm_chain {c : Expr} {op op' : CmpOp} {o o' : Mini.Op} {r r' : R2} {ma mb mc : Mini.M} (S : Sem2 X (compareOp op) o r) (S' : Sem2 X (compareOp op') o' r') (ha : PE X a (tM X.K E ma)) (hb : PE X b (tM X.K E mb)) (hc : PE X c (tM X.K E mc)) (hm : lastMarks [op, op'] [b, c] = false := by rfl) :
    PE X (.Compare a [op, op'] [b, c] pos) (tM X.K E (Mini.mChain o o' ma mb mc)) := (pe_chain S.op S'.op ha hb hc hm).to (chain_of S S')
theorem tm_chain {c : Expr} {op op' : CmpOp} {o o' : Mini.Op} {r r' : R2} {ma mb mc : Mini.M} (S : Sem2 X (compareOp op) o r) (S' : Sem2 X (compareOp op') o' r') (ha : PE X a (tM X.K E ma)) (hb : PE X b (tM X.K E mb)) (hc : PE X c (tM X.K E mc)) (hm : lastMarks [op, op'] [b, c] = false := by rfl) :
    PT X (.Compare a [op, op'] [b, c] pos) (tT X.K E (Mini.tV (Mini.mChain o o' ma mb mc))) := (pt_chain S.op S'.op ha hb hc hm).to (test_of (chain_of S S'))

/-! ### and, or, not, if -/
theorem pm_and {rest : List Expr} {ma mb : Mini.M} (ha : PE X a (tM X.K E ma)) (hb : PE X (.BoolOp .And (b :: rest) pos) (tM X.K E mb)) : PE X (.BoolOp .And (a :: b :: rest) pos) (tM X.K E (Mini.mAnd ma mb)) :=
  (pe_and ha hb).to fun σ H Q ⟨P, α, e, s, hS, q⟩ => ⟨P, α, e, s, hS, (Post.unbind q).imp fun d s1 α1 H1 g1 t1 q1 v hv => by
    obtain ⟨z, hz, q1⟩ := q1.unof
    cases d <;> simp [Mini.isBl] at hz
    subst hz
    rw [Dr] at hv
    refine ⟨_, hv, ?_⟩
    split
    · rename_i hk
      simp only [hk, if_true] at q1
      exact ⟨P, α1, e, s1, hS.gr g1 t1, q1⟩
    · rename_i hk
      simp only [hk, if_false] at q1
      exact q1.here t1 _ (by simp [Dr])⟩
theorem pm_or {rest : List Expr} {ma mb : Mini.M} (ha : PE X a (tM X.K E ma)) (hb : PE X (.BoolOp .Or (b :: rest) pos) (tM X.K E mb)) : PE X (.BoolOp .Or (a :: b :: rest) pos) (tM X.K E (Mini.mOr ma mb)) :=
  (pe_or ha hb).to fun σ H Q ⟨P, α, e, s, hS, q⟩ => ⟨P, α, e, s, hS, (Post.unbind q).imp fun d s1 α1 H1 g1 t1 q1 v hv => by
    obtain ⟨z, hz, q1⟩ := q1.unof
    cases d <;> simp [Mini.isBl] at hz
    subst hz
    rw [Dr] at hv
    refine ⟨_, hv, ?_⟩
    split
    · rename_i hk
      simp only [hk, if_true] at q1
      exact q1.here t1 _ (by simp [Dr])
    · rename_i hk
      simp only [hk, if_false] at q1
      exact ⟨P, α1, e, s1, hS.gr g1 t1, q1⟩⟩
theorem pm_one {op : BoolOp} {ma : Mini.M} (ha : PE X a (tM X.K E ma)) : PE X (.BoolOp op [a] pos) (tM X.K E ma) := pe_one ha
theorem pm_not {ma : Mini.M} (ha : PE X a (tM X.K E ma)) : PE X (.UnaryOp .Not a pos) (tM X.K E (Mini.mNot ma)) :=
  (pe_not ha).to fun σ H Q ⟨P, α, e, s, hS, q⟩ => ⟨P, α, e, s, hS, (Post.unbind q).imp fun d s1 α1 H1 g1 t1 q1 v hv => by
    obtain ⟨z, hz, q1⟩ := q1.unof
    cases d <;> simp [Mini.isBl] at hz
    subst hz
    rw [Dr] at hv
    exact ⟨_, hv, q1.here t1 _ (by simp [Dr])⟩⟩
theorem wm_and1 {t : Mini.T} (ha : PT X a (tT X.K E t)) : PW X (.BoolOp .And [a] pos) (tT X.K E t) := pw_and1 ha
theorem wm_or1 {t : Mini.T} (ha : PT X a (tT X.K E t)) : PW X (.BoolOp .Or [a] pos) (tT X.K E t) := pw_or1 ha
theorem wm_and {rest : List Expr} {t u : Mini.T} (ha : PT X a (tT X.K E t)) (hb : PW X (.BoolOp .And (b :: rest) pos) (tT X.K E u)) : PW X (.BoolOp .And (a :: b :: rest) pos) (tT X.K E (Mini.tAnd t u)) :=
  (pw_and ha hb).to fun σ H Q ⟨P, α, e, s, hS, q⟩ => ⟨P, α, e, s, hS, (Post.unbind q).imp fun d s1 α1 H1 g1 t1 q1 => by
    dsimp only at q1 ⊢
    split
    · rename_i hk
      simp only [hk, if_true] at q1
      exact ⟨P, α1, e, s1, hS.gr g1 t1, q1⟩
    · rename_i hk
      simp only [hk, if_false] at q1
      exact q1.here t1⟩
theorem wm_or {rest : List Expr} {t u : Mini.T} (ha : PT X a (tT X.K E t)) (hb : PW X (.BoolOp .Or (b :: rest) pos) (tT X.K E u)) : PW X (.BoolOp .Or (a :: b :: rest) pos) (tT X.K E (Mini.tOr t u)) :=
  (pw_or ha hb).to fun σ H Q ⟨P, α, e, s, hS, q⟩ => ⟨P, α, e, s, hS, (Post.unbind q).imp fun d s1 α1 H1 g1 t1 q1 => by
    dsimp only at q1 ⊢
    split
    · rename_i hk
      simp only [hk, if_true] at q1
      exact q1.here t1
    · rename_i hk
      simp only [hk, if_false] at q1
      exact ⟨P, α1, e, s1, hS.gr g1 t1, q1⟩⟩
theorem tm_not {t : Mini.T} (ha : PT X a (tT X.K E t)) : PT X (.UnaryOp .Not a pos) (tT X.K E (Mini.tNot t)) :=
  (pt_not ha).to fun σ H Q ⟨P, α, e, s, hS, q⟩ => ⟨P, α, e, s, hS, (Post.unbind q).imp fun d s1 α1 H1 g1 t1 q1 => q1.here t1⟩
theorem tm_truth {e : Expr} {m : Mini.M} (h : PE X e (tM X.K E m)) (he : ∀ whole, isTrue e X.env whole = (do let v ← whole; standAt e.pos; holding [v] (truthy v)) := by intro _; rfl) : PT X e (tT X.K E (Mini.tT m)) :=
  (pt_truth h he).to fun σ H Q ⟨P, α, e, s, hS, q⟩ => ⟨P, α, e, s, hS, (Post.unbind q).imp fun d s1 α1 H1 g1 t1 q1 v hv => by
    obtain ⟨z, hz, q1⟩ := q1.unof
    refine ⟨z, ?_, q1.here t1⟩
    have hd := rz_dr t1 hv
    generalize Mini.rz s1 d = d' at hz hd
    cases d' with
    | non => simp [Mini.tru] at hz; subst hz; simp [DrH, Dr] at hd; subst hd; rfl
    | bl b => simp [Mini.tru] at hz; subst hz; simp [DrH, Dr] at hd; subst hd; rfl
    | int b => simp [Mini.tru] at hz; subst hz; simp [DrH, Dr] at hd; subst hd; rfl
    | str w =>
      simp [DrH, Dr] at hd; subst hd
      simp only [Mini.tru] at hz
      split at hz
      · rename_i hl
        cases hz
        refine ⟨?_, ?_⟩
        · rw [sizeLine_eq]; exact hl
        · show (!w.isEmpty) = (((⟨w.toArray⟩ : Str).length : Int) != 0)
          cases w with
          | nil => rfl
          | cons c w =>
            show true = (((c :: w).toArray.size : Int) != 0)
            simp
            omega
      · cases hz
    | lst ds =>
      obtain ⟨p, xs, rfl, h1, h2⟩ := hd
      have hz' : some (!ds.isEmpty) = some z := hz
      cases hz'
      refine .inl ⟨xs, .of h1, ?_⟩
      have := h2.len
      cases ds <;> cases xs <;> simp_all
    | tup ds =>
      obtain ⟨p, xs, rfl, h1, h2⟩ := hd
      have hz' : some (!ds.isEmpty) = some z := hz
      cases hz'
      refine .inr (.inl ⟨xs, .of h1, ?_⟩)
      have := h2.len
      cases ds <;> cases xs <;> simp_all
    | scr => simp [Mini.tru] at hz
    | own => simp [Mini.tru] at hz
    | dic => simp [Mini.tru] at hz⟩
theorem pm_if {c : Expr} {t : Mini.T} {ma mb : Mini.M} (hc : PT X c (tT X.K E t)) (ha : PE X a (tM X.K E ma)) (hb : PE X b (tM X.K E mb)) : PE X (.IfExp c a b pos) (tM X.K E (Mini.mIf t ma mb)) :=
  (pe_ifExp hc ha hb).to fun σ H Q ⟨P, α, e, s, hS, q⟩ => ⟨P, α, e, s, hS, (Post.unbind q).imp fun d s1 α1 H1 g1 t1 q1 => by
    dsimp only at q1 ⊢
    split
    · rename_i hk
      simp only [hk, if_true] at q1
      exact ⟨P, α1, e, s1, hS.gr g1 t1, q1⟩
    · rename_i hk
      simp only [hk, if_false] at q1
      exact ⟨P, α1, e, s1, hS.gr g1 t1, q1⟩⟩
theorem pm_neg {ma : Mini.M} (ha : PE X a (tM X.K E ma)) : PE X (.UnaryOp .USub a pos) (tM X.K E (Mini.mNeg ma)) :=
  (pe_un un_neg ha).to fun σ H Q ⟨P, α, e, s, hS, q⟩ => ⟨P, α, e, s, hS, (Post.unbind q).imp fun d s1 α1 H1 g1 t1 q1 v hv => by
    cases d <;> simp only at q1 <;> first | exact q1.elim | skip
    rw [Dr] at hv
    exact ⟨_, hv, q1.here t1 _ (by simp [Dr])⟩⟩
end
end Snd
end
section
namespace Snd
open PySem L2

theorem sl {n : Nat} (h : n ≤ 16777216) : n ≤ sizeLine := by rw [sizeLine_eq]; exact h
theorem slt {n : Nat} (h : n < 16777216) : n < sizeLine := by rw [sizeLine_eq]; exact h
section
variable {K : PySem.W.Frag} {P α : List Addr} {s : Mini.Sto} {H : Hp}
theorem new_lst (hs : StR K P α s H) {p : Addr} {ds : List Mini.D} {xs : List V} {Q : VK} (hp : H p = none) (hd : DrL K (imm H P α) [] ds xs) (k : Then K P α s H (.lst ds) Q) : Q (.ref p) (upd H p (.lst xs)) := by
  obtain ⟨g2, t2, hi⟩ := hs.new (o := .lst xs) hp
  refine k _ _ g2 t2 ?_
  rw [Dr]
  exact ⟨p, xs, rfl, hi, DrL.mono g2.ext (fun _ _ q => q) hd⟩
theorem new_tup (hs : StR K P α s H) {p : Addr} {ds : List Mini.D} {xs : List V} {Q : VK} (hp : H p = none) (hd : DrL K (imm H P α) α ds xs) (k : Then K P α s H (.tup ds) Q) : Q (.ref p) (upd H p (.tup xs)) := by
  obtain ⟨g2, t2, hi⟩ := hs.new (o := .tup xs) hp
  refine k _ _ g2 t2 ?_
  rw [Dr]
  exact ⟨p, xs, rfl, hi, g2.drL hd⟩
theorem now {d : Mini.D} {v : V} {Q : VK} (k : Then K P α s H d Q) (hs : StR K P α s H) (h : Dr K (imm H P α) α d v) : Q v H := k v H (Gr.refl _ _ _) hs h
/-- a value seen in the whole heap: not a list of one's own, so seen where it stands -/
theorem DrH.dr {d : Mini.D} {v : V} (h : DrH K H (imm H P α) α d v) (f : Mini.flat d = true) : Dr K (imm H P α) α d v := by
  cases d <;> simp [Mini.flat] at f <;> exact h
end

def orR (r r' : R2) : R2 := fun x y H Q => r x y H Q ∨ r' x y H Q
section
variable {X : Cx}
def rStr : R2 := fun x y H Q => ∃ i j, x = .str i ∧ y = .str j ∧ i.length + j.length ≤ sizeLine ∧ Q (.str (i ++ j)) H
theorem sem_add : Sem2 X (binaryOp .Add) Mini.opAdd (orR (rI0 fun i j => .int (i + j)) (orR rStr rCat)) := by
  refine ⟨op_add.or (op_add_str.or op_cat), ?_⟩
  intro P α s H x y va vb d Q hs hx hy e k
  replace hx := rz_dr hs hx
  replace hy := rz_dr hs hy
  generalize Mini.rz s x = x' at *
  generalize Mini.rz s y = y' at *
  cases x' <;> cases y' <;> simp [Mini.opAdd] at e
  · subst e
    simp [DrH, Dr] at hx hy
    subst hx; subst hy
    exact .inl ⟨_, _, rfl, rfl, now k hs (by simp [Dr])⟩
  · obtain ⟨hl, e⟩ := e
    subst e
    simp [DrH, Dr] at hx hy
    subst hx; subst hy
    refine .inr (.inl ⟨_, _, rfl, rfl, sl hl, now k hs ?_⟩)
    rw [Dr]
    show V.str ⟨_ ++ _⟩ = _
    simp
  · obtain ⟨hl, e⟩ := e
    subst e
    obtain ⟨a, xs, rfl, h1, h2⟩ := hx
    obtain ⟨b, ys, rfl, h3, h4⟩ := hy
    exact .inr (.inr ⟨a, b, xs, ys, rfl, rfl, h1, h3, sl (by rw [← h2.len, ← h4.len]; exact hl), fun p hp => new_lst hs hp (h2.append h4) k⟩)
theorem sem_sub : Sem2 X (binaryOp .Sub) Mini.opSub (rI0 fun i j => .int (i - j)) := by
  refine ⟨op_sub, ?_⟩
  intro P α s H x y va vb d Q hs hx hy e k
  replace hx := rz_dr hs hx
  replace hy := rz_dr hs hy
  generalize Mini.rz s x = x' at *
  generalize Mini.rz s y = y' at *
  cases x' <;> cases y' <;> simp [Mini.opSub] at e
  subst e
  simp [DrH, Dr] at hx hy
  subst hx; subst hy
  exact ⟨_, _, rfl, rfl, now k hs (by simp [Dr])⟩
theorem sem_div : Sem2 X (binaryOp .FloorDiv) Mini.opDiv (rI CDiv fun i j => .int (i / j)) := by
  refine ⟨op_fdiv, ?_⟩
  intro P α s H x y va vb d Q hs hx hy e k
  replace hx := rz_dr hs hx
  replace hy := rz_dr hs hy
  generalize Mini.rz s x = x' at *
  generalize Mini.rz s y = y' at *
  cases x' <;> cases y' <;> simp [Mini.opDiv] at e
  obtain ⟨hc, e⟩ := e
  subst e
  simp [DrH, Dr] at hx hy
  subst hx; subst hy
  exact ⟨_, _, rfl, rfl, hc, now k hs (by simp [Dr])⟩
theorem sem_mod : Sem2 X (binaryOp .Mod) Mini.opMod (rI (fun _ j => 0 < j) fun i j => .int (i % j)) := by
  refine ⟨op_mod, ?_⟩
  intro P α s H x y va vb d Q hs hx hy e k
  replace hx := rz_dr hs hx
  replace hy := rz_dr hs hy
  generalize Mini.rz s x = x' at *
  generalize Mini.rz s y = y' at *
  cases x' <;> cases y' <;> simp [Mini.opMod] at e
  obtain ⟨hc, e⟩ := e
  subst e
  simp [DrH, Dr] at hx hy
  subst hx; subst hy
  exact ⟨_, _, rfl, rfl, hc, now k hs (by simp [Dr])⟩
def rMulS : R2 := fun x y H Q => ∃ z k, x = .str z ∧ y = .int k ∧ 0 ≤ k ∧ k ≤ 1000 ∧ z.length ≤ 1000 ∧ Q (.str ⟨((List.replicate k.toNat z.cps.toList).flatten).toArray⟩) H
theorem foldl_app (xs : List (Array Nat)) (acc : Array Nat) : (xs.foldl (· ++ ·) acc).toList = acc.toList ++ (xs.map (·.toList)).flatten := by
  induction xs generalizing acc with
  | nil => simp
  | cons x xs ih => simp [ih]
theorem op_mul_str : OpR X (binaryOp .Mult) rMulS := by
  intro pins s σ H x y v u Q I rx ry h
  obtain ⟨z, k, rfl, rfl, h0, h1, h2, q⟩ := h
  obtain ⟨t, rfl⟩ := rx
  obtain ⟨t', rfl⟩ := ry
  refine PySem.P.mul_str ?_ ?_ ?_ ?_
  · simp
    omega
  · intro hk _
    have hz : (z.length : Int) ≤ 1000 := by omega
    have : (1000 : Int) ≤ (2 ^ 63 - 1) / k := by
      rw [Int.le_ediv_iff_mul_le (by omega)]
      omega
    omega
  · intro hk _
    have : z.length * k.toNat ≤ 1000 * 1000 := Nat.mul_le_mul h2 (by omega)
    show decide (z.length * k.toNat > sizeLine) = false
    rw [sizeLine_eq]
    simp
    omega
  · split
    · rename_i hk
      have : k = 0 := by omega
      subst this
      exact ⟨by decide, ⟨.str Str.empty, H, I.tok _, ⟨_, rfl⟩, by simpa [Str.empty] using q⟩⟩
    · rename_i hk
      have e : (⟨((List.replicate k.toNat z.cps.toList).flatten).toArray⟩ : Str) = ⟨(List.replicate k.toNat z.cps).foldl (· ++ ·) #[]⟩ := by
        congr 1
        apply Array.toList_inj.mp
        rw [foldl_app]
        simp
      split
      · rename_i hc
        have e2 : (⟨((List.replicate k.toNat z.cps.toList).flatten).toArray⟩ : Str) = z := by
          rw [Bool.or_eq_true] at hc
          rcases hc with hc | hc
          · have : k = 1 := by simpa using hc
            subst this
            cases z; simp
          · have hz : z.cps = #[] := by
              have : z.length = 0 := by simpa using hc
              exact Array.eq_empty_of_size_eq_zero this
            cases z; simp at hz; subst hz; simp
        rw [e2] at q
        exact ⟨.str z, H, I, ⟨t, rfl⟩, q⟩
      · rw [e] at q
        refine ⟨?_, ⟨.str _, H, I.tok _, ⟨_, rfl⟩, q⟩⟩
        have hl : ((⟨(List.replicate k.toNat z.cps).foldl (· ++ ·) #[]⟩ : Str)).length ≤ 1000 * 1000 := by
          rw [← e]
          show (((List.replicate k.toNat z.cps.toList).flatten).toArray).size ≤ _
          simp
          exact Nat.mul_le_mul (show k.toNat ≤ 1000 by omega) h2
        exact Nat.le_trans hl (by rw [sizeLine_eq]; decide)
theorem sem_mul : Sem2 X (binaryOp .Mult) Mini.opMul (orR (rI CMul fun i j => .int (i * j)) (orR rMulS rRep)) := by
  refine ⟨op_mul.or (op_mul_str.or op_rep), ?_⟩
  intro P α s H x y va vb d Q hs hx hy e k
  replace hx := rz_dr hs hx
  replace hy := rz_dr hs hy
  generalize Mini.rz s x = x' at *
  generalize Mini.rz s y = y' at *
  cases x' <;> cases y' <;> simp [Mini.opMul] at e
  · obtain ⟨hc, e⟩ := e
    subst e
    simp [DrH, Dr] at hx hy
    subst hx; subst hy
    exact .inl ⟨_, _, rfl, rfl, hc, now k hs (by simp [Dr])⟩
  · obtain ⟨⟨hc1, hc2, hc3⟩, e⟩ := e
    subst e
    simp [DrH, Dr] at hx hy
    subst hx; subst hy
    exact .inr (.inl ⟨_, _, rfl, rfl, hc1, hc2, hc3, now k hs (by simp [Dr])⟩)
  · obtain ⟨⟨hc1, hc2, hc3⟩, e⟩ := e
    subst e
    obtain ⟨a, xs, rfl, h1, h2⟩ := hx
    simp [DrH, Dr] at hy
    subst hy
    exact .inr (.inr ⟨a, _, xs, rfl, rfl, h1, by omega, hc2, sl (by rw [← h2.len]; exact hc3), fun p hp => new_lst hs hp (h2.rep _) k⟩)
theorem sem_cmI {f : Value → Value → Sem Value} {p : Int → Int → Bool} (h : OpR X f (rI0 fun i j => .bl (p i j))) : Sem2 X f (Mini.cmI p) (rI0 fun i j => .bl (p i j)) := by
  refine ⟨h, ?_⟩
  intro P α s H x y va vb d Q hs hx hy e k
  replace hx := rz_dr hs hx
  replace hy := rz_dr hs hy
  generalize Mini.rz s x = x' at *
  generalize Mini.rz s y = y' at *
  cases x' <;> cases y' <;> simp [Mini.cmI] at e
  subst e
  simp [DrH, Dr] at hx hy
  subst hx; subst hy
  exact ⟨_, _, rfl, rfl, now k hs (by simp [Dr])⟩
theorem sem_lt : Sem2 X (compareOp .Lt) Mini.opLt (rI0 fun i j => .bl (decide (i < j))) := sem_cmI op_lt
theorem sem_le : Sem2 X (compareOp .LtE) Mini.opLe (rI0 fun i j => .bl (decide (i ≤ j))) := sem_cmI op_le
theorem sem_gt : Sem2 X (compareOp .Gt) Mini.opGt (rI0 fun i j => .bl (decide (j < i))) := sem_cmI op_gt
theorem sem_ge : Sem2 X (compareOp .GtE) Mini.opGe (rI0 fun i j => .bl (decide (j ≤ i))) := sem_cmI op_ge

/-! ### == -/
mutual
def toPy : Mini.D → PyData
  | .non => .none
  | .bl b => .bool b
  | .int i => .int i
  | .str s => .str ⟨s.toArray⟩
  | .tup ds => .tuple (toPyL ds)
  | .lst ds => .list (toPyL ds)
  | _ => .none
def toPyL : List Mini.D → List PyData
  | [] => []
  | d :: ds => toPy d :: toPyL ds
end
mutual
theorem toPy_lay : ∀ (d : Mini.D), Mini.plain d = true → (toPy d).canLay0 = true
  | .non, _ => by simp [toPy, PyData.canLay0]
  | .bl _, _ => by simp [toPy, PyData.canLay0]
  | .int _, _ => by simp [toPy, PyData.canLay0]
  | .str z, h => by
    simp only [toPy, PyData.canLay0, PyData.strOk]
    simp [Mini.plain] at h
    simpa using h
  | .tup ds, h => by
    simp only [toPy, PyData.canLay0]
    exact toPy_layL ds (by simpa [Mini.plain] using h)
  | .lst ds, h => by
    simp only [toPy, PyData.canLay0]
    exact toPy_layL ds (by simpa [Mini.plain] using h)
  | .scr _, h => by simp [Mini.plain] at h
  | .own _, h => by simp [Mini.plain] at h
  | .dic _, h => by simp [Mini.plain] at h
theorem toPy_layL : ∀ (d : List Mini.D), Mini.plainL d = true → PyData.canLayAll0 (toPyL d) = true
  | [], _ => by simp [toPyL, PyData.canLayAll0]
  | d :: ds, h => by
    simp only [toPyL, PyData.canLayAll0]
    have h' : Mini.plain d = true ∧ Mini.plainL ds = true := by simpa [Mini.plainL] using h
    rw [toPy_lay d h'.1, toPy_layL ds h'.2]
    rfl
end
mutual
theorem toPy_dep : ∀ (d : Mini.D), (toPy d).depth ≤ Mini.dep d
  | .non => by simp [toPy, PyData.depth]
  | .bl _ => by simp [toPy, PyData.depth]
  | .int _ => by simp [toPy, PyData.depth]
  | .str z => by simp [toPy, PyData.depth]
  | .tup ds => by
    simp only [toPy, PyData.depth, Mini.dep]
    exact Nat.succ_le_succ (toPy_depL ds)
  | .lst ds => by
    simp only [toPy, PyData.depth, Mini.dep]
    exact Nat.succ_le_succ (toPy_depL ds)
  | .scr _ => by simp [toPy, PyData.depth]
  | .own _ => by simp [toPy, PyData.depth]
  | .dic _ => by simp [toPy, PyData.depth]
theorem toPy_depL : ∀ (d : List Mini.D), PyData.depthAll (toPyL d) ≤ Mini.depL d
  | [] => by simp [toPyL, PyData.depthAll]
  | d :: ds => by
    simp only [toPyL, PyData.depthAll, Mini.depL]
    have h1 := toPy_dep d
    have h2 := toPy_depL ds
    omega
end
theorem str_beq (a b : List Nat) : ((⟨a.toArray⟩ : Str) == ⟨b.toArray⟩) = (a == b) := by
  rw [Bool.eq_iff_iff]
  simp
mutual
theorem toPy_eqv : ∀ (d e : Mini.D), Mini.plain d = true → Mini.plain e = true → PyData.eqv (toPy d) (toPy e) = Mini.deq d e
  | d, e, hd, he => by
    cases d <;> simp [Mini.plain] at hd <;> cases e <;> simp [Mini.plain] at he <;> simp only [toPy, PyData.eqv, Mini.deq]
    · exact str_beq _ _
    · exact toPy_eqvL _ _ (by simpa using hd) (by simpa using he)
    · exact toPy_eqvL _ _ (by simpa using hd) (by simpa using he)
theorem toPy_eqvL : ∀ (d e : List Mini.D), Mini.plainL d = true → Mini.plainL e = true → PyData.eqvAll (toPyL d) (toPyL e) = Mini.deqL d e
  | [], [], _, _ => by simp [toPyL, PyData.eqvAll, Mini.deqL]
  | [], _ :: _, _, _ => by simp [toPyL, PyData.eqvAll, Mini.deqL]
  | _ :: _, [], _, _ => by simp [toPyL, PyData.eqvAll, Mini.deqL]
  | d :: ds, e :: es, hd, he => by
    have h1 : Mini.plain d = true ∧ Mini.plainL ds = true := by simpa [Mini.plainL] using hd
    have h2 : Mini.plain e = true ∧ Mini.plainL es = true := by simpa [Mini.plainL] using he
    simp only [toPyL, PyData.eqvAll, Mini.deqL]
    rw [toPy_eqv d e h1.1 h2.1, toPy_eqvL ds es h1.2 h2.2]
end
mutual
theorem dr_dp {K : PySem.W.Frag} {G H : Hp} {α : List Addr} (x : Ext G H) : ∀ (d : Mini.D) (v : V), Mini.plain d = true → Dr K G α d v → Dp K H v (toPy d)
  | .non, v, _, h => by simp [Dr] at h; subst h; exact .non
  | .bl _, v, _, h => by simp [Dr] at h; subst h; exact .bl _
  | .int _, v, _, h => by simp [Dr] at h; subst h; exact .int _
  | .str _, v, _, h => by simp [Dr] at h; subst h; exact .str _
  | .tup ds, v, p, h => by
    rw [Dr] at h
    obtain ⟨a, xs, rfl, h1, h2⟩ := h
    exact .tup (.of (x _ _ h1)) (dr_dpL x ds xs (by simpa [Mini.plain] using p) h2)
  | .lst ds, v, p, h => by
    rw [Dr] at h
    obtain ⟨a, xs, rfl, h1, h2⟩ := h
    exact .lst (.of (x _ _ h1)) (dr_dpL x ds xs (by simpa [Mini.plain] using p) h2)
  | .scr _, _, h, _ => by simp [Mini.plain] at h
  | .own _, _, h, _ => by simp [Mini.plain] at h
  | .dic _, _, h, _ => by simp [Mini.plain] at h
theorem dr_dpL {K : PySem.W.Frag} {G H : Hp} {α : List Addr} (x : Ext G H) : ∀ (d : List Mini.D) (v : List V), Mini.plainL d = true → DrL K G α d v → DpAll K H v (toPyL d)
  | [], [], _, _ => .nil
  | [], _ :: _, _, h => by simp [DrL] at h
  | _ :: _, [], _, h => by simp [DrL] at h
  | d :: ds, v :: vs, p, h => by
    have h1 : Mini.plain d = true ∧ Mini.plainL ds = true := by simpa [Mini.plainL] using p
    rw [DrL] at h
    exact .cons (dr_dp x d v h1.1 h.1) (dr_dpL x ds vs h1.2 h.2)
end
theorem drH_dp {K : PySem.W.Frag} {H G : Hp} {α : List Addr} (x : Ext G H) {d : Mini.D} {v : V} (p : Mini.plain d = true) (h : DrH K H G α d v) : Dp K H v (toPy d) := by
  cases d with
  | tup ds =>
    obtain ⟨a, xs, rfl, h1, h2⟩ := h
    exact .tup (.of h1) (dr_dpL x ds xs (by simpa [Mini.plain] using p) h2)
  | lst ds =>
    obtain ⟨a, xs, rfl, h1, h2⟩ := h
    exact .lst (.of h1) (dr_dpL x ds xs (by simpa [Mini.plain] using p) h2)
  | scr _ => simp [Mini.plain] at p
  | dic _ => simp [Mini.plain] at p
  | _ => exact dr_dp (α := α) x _ _ p h
theorem eq_ok {K : PySem.W.Frag} {P α : List Addr} {s : Mini.Sto} {H : Hp} {x y : Mini.D} {va vb : V} {b : Bool} (hs : StR K P α s H) (hx : Dr K (imm H P α) α x va) (hy : Dr K (imm H P α) α y vb) (e : Mini.eqB (Mini.rz s x) (Mini.rz s y) = some b) :
    (scal va vb = true ∧ decide (va = vb) = b) ∨ ∃ d d', Dp K H va d ∧ Dp K H vb d' ∧ SeqAt.shaped d = true ∧ SeqAt.shaped d' = true ∧ PyData.eqv d d' = b := by
  replace hx := rz_dr hs hx
  replace hy := rz_dr hs hy
  generalize Mini.rz s x = x' at *
  generalize Mini.rz s y = y' at *
  unfold Mini.eqB at e
  split at e
  · simp [DrH, Dr] at hx hy
    subst hx; subst hy
    exact .inl ⟨rfl, by simpa using e⟩
  · simp [DrH, Dr] at hx hy
    subst hx; subst hy
    exact .inl ⟨rfl, by simpa using e⟩
  · simp [DrH, Dr] at hx hy
    subst hx; subst hy
    exact .inl ⟨rfl, by simpa using e⟩
  · split at e
    · rename_i hc
      obtain ⟨p1, p2, p3, p4⟩ := hc
      have sh : ∀ d : Mini.D, Mini.plain d = true → Mini.dep d ≤ 60 → SeqAt.shaped (toPy d) = true := fun d hp hd => by
        unfold SeqAt.shaped
        have := toPy_dep d
        rw [toPy_lay d hp, Bool.true_and]
        exact decide_eq_true (by omega)
      exact .inr ⟨_, _, drH_dp (imm_sub _ _ _) p1 hx, drH_dp (imm_sub _ _ _) p2 hy, sh _ p1 p3, sh _ p2 p4, by rw [toPy_eqv _ _ p1 p2]; simpa using e⟩
    · cases e
theorem sem_eq (hu : X.A.units + 64 < cLine) : Sem2 X (compareOp .Eq) Mini.opEq (orR rEq (rEqD X.K)) := by
  refine ⟨op_eq.or (op_eqD hu), ?_⟩
  intro P α s H x y va vb d Q hs hx hy e k
  unfold Mini.opEq at e
  obtain ⟨b, hb, rfl⟩ := Option.map_eq_some_iff.mp e
  rcases eq_ok hs hx hy hb with ⟨h1, h2⟩ | ⟨d, d', h1, h2, h3, h4, h5⟩
  · exact .inl ⟨h1, now k hs (by rw [h2]; simp [Dr])⟩
  · exact .inr ⟨d, d', h1, h2, h3, h4, now k hs (by rw [h5]; simp [Dr])⟩
theorem sem_ne (hu : X.A.units + 64 < cLine) : Sem2 X (compareOp .NotEq) Mini.opNe (orR rNe (rNeD X.K)) := by
  refine ⟨op_ne.or (op_neD hu), ?_⟩
  intro P α s H x y va vb d Q hs hx hy e k
  unfold Mini.opNe at e
  obtain ⟨b, hb, rfl⟩ := Option.map_eq_some_iff.mp e
  rcases eq_ok hs hx hy hb with ⟨h1, h2⟩ | ⟨d, d', h1, h2, h3, h4, h5⟩
  · exact .inl ⟨h1, now k hs (by rw [h2]; simp [Dr])⟩
  · exact .inr ⟨d, d', h1, h2, h3, h4, now k hs (by rw [h5]; simp [Dr])⟩
end
end Snd
end
section
namespace Snd
open PySem L2
section
variable {X : Cx}
/-! ### in -/
def rInS : R2 := fun x y H Q => ∃ (c : Nat) (z : Str), x = .str ⟨#[c]⟩ ∧ y = .str z ∧ Q (.bl (decide (c ∈ z.cps.toList))) H
def rNinS : R2 := fun x y H Q => ∃ (c : Nat) (z : Str), x = .str ⟨#[c]⟩ ∧ y = .str z ∧ Q (.bl (!decide (c ∈ z.cps.toList))) H
def rInD : R2 := fun y x H Q => ∃ a o, x = .ref a ∧ DGet H a y o ∧ Q (.bl o.isSome) H
def rNinD : R2 := fun y x H Q => ∃ a o, x = .ref a ∧ DGet H a y o ∧ Q (.bl (!o.isSome)) H
theorem op_inD (hu : X.A.units + 64 < cLine) : OpR X (compareOp .In) rInD := by
  intro pins s σ H y x v u Q I ry rx h
  obtain ⟨a, o, rfl, g, q⟩ := h
  obtain rfl : u = Value.ref a := rx
  exact d_in (by omega) I g ry fun s3 I3 => ⟨.bl o.isSome, H, I3, rfl, q⟩
theorem op_ninD (hu : X.A.units + 64 < cLine) : OpR X (compareOp .NotIn) rNinD := by
  intro pins s σ H y x v u Q I ry rx h
  obtain ⟨a, o, rfl, g, q⟩ := h
  obtain rfl : u = Value.ref a := rx
  exact d_notIn (by omega) I g ry fun s3 I3 => ⟨.bl (!o.isSome), H, I3, rfl, q⟩
theorem flat_v {K : PySem.W.Frag} {G : Hp} {α : List Addr} {d : Mini.D} {v : V} (h : Dr K G α d v) (f : Mini.flat d = true) : flatV v = true := by
  cases d <;> simp [Mini.flat] at f <;> simp [Dr] at h <;> subst h <;> rfl
theorem flat_eq {K : PySem.W.Frag} {G : Hp} {α β : List Addr} {d e : Mini.D} {v u : V} (h : Dr K G α d v) (h' : Dr K G β e u) (f : Mini.flat d = true) (f' : Mini.flat e = true) : eqV v u = Mini.deq d e := by
  cases d <;> simp [Mini.flat] at f <;> simp [Dr] at h <;> subst h <;> cases e <;> simp [Mini.flat] at f' <;> simp [Dr] at h' <;> subst h' <;> simp only [eqV, Mini.deq]
  exact str_beq _ _
theorem flat_all {K : PySem.W.Frag} {G : Hp} {α β : List Addr} : ∀ {ds : List Mini.D} {vs : List V} {e : Mini.D} {u : V}, DrL K G α ds vs → Dr K G β e u → ds.all Mini.flat = true → Mini.flat e = true → vs.all flatV = true ∧ inV u vs = Mini.inD e ds
  | [], [], _, _, _, _, _, _ => by simp [inV, Mini.inD]
  | [], _ :: _, _, _, h, _, _, _ => by simp [DrL] at h
  | _ :: _, [], _, _, h, _, _, _ => by simp [DrL] at h
  | d :: ds, v :: vs, e, u, h, h', f, f' => by
    rw [DrL] at h
    have f2 : Mini.flat d = true ∧ ds.all Mini.flat = true := by simpa using f
    obtain ⟨i1, i2⟩ := flat_all h.2 h' f2.2 f'
    refine ⟨by rw [List.all_cons, flat_v h.1 f2.1, i1]; rfl, ?_⟩
    unfold inV Mini.inD at i2 ⊢
    rw [List.any_cons, List.any_cons, i2, flat_eq h.1 h' f2.1 f']
theorem valDI (ks : List Int) (i : Int) : (valV (ks.map fun k => ((Sum.inl k : Key), V.bl true)) (Sum.inl i)).isSome = decide (i ∈ ks) := by
  rw [← valV_any]
  rw [Bool.eq_iff_iff]
  simp [List.any_eq_true]
theorem valDT (ks : List (List Int)) (i : List Int) : (valV (ks.map fun k => ((k.map Sum.inl : List Key), V.bl true)) (i.map Sum.inl)).isSome = decide (i ∈ ks) := by
  rw [← valV_any]
  rw [Bool.eq_iff_iff]
  have inj : ∀ a b : List Int, (a.map Sum.inl : List Key) = b.map Sum.inl ↔ a = b := fun a b => by
    constructor
    · intro h
      exact (List.map_inj_right fun _ _ e => Sum.inl.inj e).mp h
    · rintro rfl; rfl
  simp [List.any_eq_true, inj]
theorem kV_ints (js : List Int) : (js.map (Sum.inl : Int → Key)).map kV = js.map V.int := by
  induction js with
  | nil => rfl
  | cons j js ih => simp only [List.map_cons, ih]; rfl
theorem rz_flat {K : PySem.W.Frag} {H G : Hp} {α : List Addr} {d : Mini.D} {v : V} (h : DrH K H G α d v) (f : Mini.flat d = true) : Dr K G α d v := by
  cases d <;> simp [Mini.flat] at f <;> exact h
inductive InOk (K : PySem.W.Frag) (H : Hp) (va vb : V) (b : Bool) : Prop where
  | sg (c : Nat) (z : Str) (h1 : va = .str ⟨#[c]⟩) (h2 : vb = .str z) (h3 : decide (c ∈ z.cps.toList) = b)
  | sq (p : Addr) (xs : List V) (h1 : vb = .ref p) (h2 : SqL K H p xs ∨ SqT K H p xs) (h3 : flatV va = true) (h4 : xs.all flatV = true) (h5 : inV va xs = b)
  | di (a : Addr) (o : Option V) (h1 : vb = .ref a) (h2 : DGet H a va o) (h3 : o.isSome = b)
theorem in_ok {K : PySem.W.Frag} {P α : List Addr} {s : Mini.Sto} {H : Hp} {x y : Mini.D} {va vb : V} {b : Bool} (hs : StR K P α s H) (hx : Dr K (imm H P α) α x va) (hy : Dr K (imm H P α) α y vb) (e : Mini.opInB s (Mini.rz s x) (Mini.rz s y) = some b) :
    InOk K H va vb b := by
  have hy0 := hy
  have ey : ∀ k, Mini.rz s y = .own k → y = .own k := fun k q => by
    cases y with
    | own j =>
      simp only [Mini.rz] at q
      split at q
      · cases q
      · exact q
    | _ => simp [Mini.rz] at q
  replace hx := rz_dr hs hx
  replace hy := rz_dr hs hy
  generalize hrx : Mini.rz s x = x' at *
  generalize hry : Mini.rz s y = y' at *
  unfold Mini.opInB at e
  split at e
  · rename_i c z
    simp [DrH, Dr] at hx hy
    subst hx; subst hy
    exact .sg c _ rfl rfl (by simpa using e)
  · split at e
    · rename_i hc
      rw [Bool.and_eq_true] at hc
      obtain ⟨p, xs, rfl, h1, h2⟩ := hy
      obtain ⟨i1, i2⟩ := flat_all h2 (rz_flat hx hc.1) hc.2 hc.1
      exact .sq p xs rfl (.inl (.of h1)) (flat_v (rz_flat hx hc.1) hc.1) i1 (by rw [i2]; simpa using e)
    · cases e
  · split at e
    · rename_i hc
      rw [Bool.and_eq_true] at hc
      obtain ⟨p, xs, rfl, h1, h2⟩ := hy
      obtain ⟨i1, i2⟩ := flat_all h2 (rz_flat hx hc.1) hc.2 hc.1
      exact .sq p xs rfl (.inr (.of h1)) (flat_v (rz_flat hx hc.1) hc.1) i1 (by rw [i2]; simpa using e)
    · cases e
  · rename_i i k
    split at e
    · rename_i ks hk
      obtain ⟨a, h1, rfl, h2⟩ := own_ob hs (by rw [← ey k rfl]; exact hy0) hk
      simp [DrH, Dr] at hx
      subst hx
      rw [ObR] at h2
      exact .di a _ rfl (DGet.k (k := Sum.inl i) h2) (by rw [valDI]; simpa using e)
    · cases e
  · rename_i ds k
    split at e
    · rename_i ks js hk hj
      obtain ⟨a, h1, rfl, h2⟩ := own_ob hs (by rw [← ey k rfl]; exact hy0) hk
      obtain ⟨p, xs, rfl, h3, h4⟩ := hx
      have := h4.zints hj
      subst this
      rw [ObR] at h2
      exact .di a _ rfl (DGet.t (k := js.map Sum.inl) h2 (by rw [kV_ints]; exact h3)) (by rw [valDT]; simpa using e)
    · cases e
  · cases e
theorem sem_in (hu : X.A.units + 64 < cLine) : Sem2 X (compareOp .In) Mini.opIn (orR rInS (orR (rIn X.K false) rInD)) := by
  refine ⟨op_in_sign.or (op_in_seq.or (op_inD hu)), ?_⟩
  intro P α s H x y va vb d Q hs hx hy e k
  unfold Mini.opIn at e
  obtain ⟨b, hb, rfl⟩ := Option.map_eq_some_iff.mp e
  cases in_ok hs hx hy hb with
  | sg c z h1 h2 h3 => exact .inl ⟨c, z, h1, h2, now k hs (by rw [h3]; simp [Dr])⟩
  | sq p xs h1 h2 h3 h4 h5 => exact .inr (.inl ⟨p, xs, h1, h2, h3, h4, now k hs (by rw [h5]; simp [Dr])⟩)
  | di a o h1 h2 h3 => exact .inr (.inr ⟨a, o, h1, h2, now k hs (by rw [h3]; simp [Dr])⟩)
theorem sem_nin (hu : X.A.units + 64 < cLine) : Sem2 X (compareOp .NotIn) Mini.opNotIn (orR rNinS (orR (rIn X.K true) rNinD)) := by
  refine ⟨op_notIn_sign.or (op_notIn_seq.or (op_ninD hu)), ?_⟩
  intro P α s H x y va vb d Q hs hx hy e k
  unfold Mini.opNotIn at e
  obtain ⟨b, hb, rfl⟩ := Option.map_eq_some_iff.mp e
  cases in_ok hs hx hy hb with
  | sg c z h1 h2 h3 => exact .inl ⟨c, z, h1, h2, now k hs (by rw [h3]; simp [Dr])⟩
  | sq p xs h1 h2 h3 h4 h5 => exact .inr (.inl ⟨p, xs, h1, h2, h3, h4, now k hs (by simp [h5, Dr])⟩)
  | di a o h1 h2 h3 => exact .inr (.inr ⟨a, o, h1, h2, now k hs (by rw [h3]; simp [Dr])⟩)
/-! ### is -/
def rIsN : R2 := fun x y H Q => y = .non ∧ Q (.bl (decide (x = .non))) H
def rNotN : R2 := fun x y H Q => y = .non ∧ Q (.bl (!decide (x = .non))) H
theorem dr_non {K : PySem.W.Frag} {H G : Hp} {α : List Addr} {d : Mini.D} {v : V} (h : DrH K H G α d v) (n : d ≠ .non) : v ≠ .non := by
  cases d with
  | non => exact absurd rfl n
  | bl => simp [DrH, Dr] at h; subst h; simp
  | int => simp [DrH, Dr] at h; subst h; simp
  | str => simp [DrH, Dr] at h; subst h; simp
  | tup => obtain ⟨a, xs, rfl, _⟩ := h; simp
  | lst => obtain ⟨a, xs, rfl, _⟩ := h; simp
  | scr => obtain ⟨a, rfl, _⟩ := h; simp
  | dic => obtain ⟨a, xs, rfl, _⟩ := h; simp
  | own => simp [DrH, Dr] at h; obtain ⟨a, _, rfl⟩ := h; simp
theorem is_ok {K : PySem.W.Frag} {H G : Hp} {α : List Addr} {x y : Mini.D} {va vb : V} {b : Bool} (hx : DrH K H G α x va) (hy : DrH K H G α y vb) (e : Mini.opIsB x y = some b) :
    (vb = .non ∧ decide (va = .non) = b) ∨ ∃ c c', va = .bl c ∧ vb = .bl c' ∧ decide (c = c') = b := by
  unfold Mini.opIsB at e
  split at e
  · simp [DrH, Dr] at hx hy
    exact .inl ⟨hy, by rw [hx]; simpa using e⟩
  · rename_i n
    simp [DrH, Dr] at hy
    have := dr_non hx (fun z => n z)
    exact .inl ⟨hy, by rw [decide_eq_false this]; simpa using e⟩
  · simp [DrH, Dr] at hx hy
    exact .inr ⟨_, _, hx, hy, by rw [← Option.some.inj e]; exact (Bool.beq_eq_decide_eq _ _).symm⟩
  · cases e
theorem sem_is : Sem2 X (compareOp .Is) Mini.opIs (orR rIsN rIsB) := by
  refine ⟨op_isN.or op_isBl, ?_⟩
  intro P α s H x y va vb d Q hs hx hy e k
  unfold Mini.opIs at e
  obtain ⟨b, hb, rfl⟩ := Option.map_eq_some_iff.mp e
  rcases is_ok (rz_dr hs hx) (rz_dr hs hy) hb with ⟨h1, h2⟩ | ⟨c, c', h1, h2, h3⟩
  · exact .inl ⟨h1, now k hs (by rw [h2]; simp [Dr])⟩
  · exact .inr ⟨c, c', h1, h2, now k hs (by rw [h3]; simp [Dr])⟩
theorem sem_isnt : Sem2 X (compareOp .IsNot) Mini.opIsNot (orR rNotN rNotB) := by
  refine ⟨op_notN.or op_notBl, ?_⟩
  intro P α s H x y va vb d Q hs hx hy e k
  unfold Mini.opIsNot at e
  obtain ⟨b, hb, rfl⟩ := Option.map_eq_some_iff.mp e
  rcases is_ok (rz_dr hs hx) (rz_dr hs hy) hb with ⟨h1, h2⟩ | ⟨c, c', h1, h2, h3⟩
  · exact .inl ⟨h1, now k hs (by rw [h2]; simp [Dr])⟩
  · exact .inr ⟨c, c', h1, h2, now k hs (by rw [h3]; simp [Dr])⟩
/-! ### an item, a slice -/
theorem pos_ix (n : Nat) (i : Int) : Mini.pos n i = ixN n i := rfl
theorem six_ix (n d : Nat) (o : Option Int) : Mini.six n d o = HT.sIx n d o := by cases o <;> rfl
theorem ix_ok {P α : List Addr} {s : Mini.Sto} {H : Hp} {x y d : Mini.D} {va vb : V} {Q : VK} (hs : StR X.K P α s H) (hx : Dr X.K (imm H P α) α x va) (hy : Dr X.K (imm H P α) α y vb) (e : Mini.opIx s (Mini.rz s x) (Mini.rz s y) = some d) (k : Then X.K P α s H d Q) :
    rIx X.K va vb H Q := by
  replace hx := rz_dr hs hx
  replace hy := rz_dr hs hy
  generalize Mini.rz s x = x' at *
  generalize Mini.rz s y = y' at *
  unfold Mini.opIx at e
  split at e
  · rename_i ds i
    obtain ⟨p, xs, rfl, h1, h2⟩ := hx
    simp [DrH, Dr] at hy
    subst hy
    obtain ⟨j, hj, hd⟩ := Option.bind_eq_some_iff.mp e
    obtain ⟨v, hv, hdv⟩ := h2.at hd
    refine .inl ⟨p, xs, i, v, rfl, rfl, .of h1, ?_, now k hs (Dr.nil_any hdv)⟩
    unfold atI
    rw [← h2.len, ← pos_ix, hj]
    exact hv
  · rename_i ds i
    obtain ⟨p, xs, rfl, h1, h2⟩ := hx
    simp [DrH, Dr] at hy
    subst hy
    obtain ⟨j, hj, hd⟩ := Option.bind_eq_some_iff.mp e
    obtain ⟨v, hv, hdv⟩ := h2.at hd
    refine .inr (.inl ⟨p, xs, i, v, rfl, rfl, .of h1, ?_, now k hs hdv⟩)
    unfold atI
    rw [← h2.len, ← pos_ix, hj]
    exact hv
  · rename_i z i
    split at e
    · rename_i hl
      simp [DrH, Dr] at hx hy
      subst hx; subst hy
      obtain ⟨c, hc, rfl⟩ := Option.map_eq_some_iff.mp e
      obtain ⟨j, hj, hd⟩ := Option.bind_eq_some_iff.mp hc
      refine .inr (.inr ⟨_, i, c, rfl, rfl, sl hl, ?_, now k hs (by simp [Dr])⟩)
      unfold atI
      simp only [List.toList_toArray]
      rw [← pos_ix, hj]
      exact hd
    · cases e
  · rename_i ns i
    obtain ⟨p, rfl, h1⟩ := hx
    simp [DrH, Dr] at hy
    subst hy
    obtain ⟨c, hc, rfl⟩ := Option.map_eq_some_iff.mp e
    obtain ⟨j, hj, hd⟩ := Option.bind_eq_some_iff.mp hc
    refine .inl ⟨p, _, i, .int c, rfl, rfl, h1, ?_, now k hs (by simp [Dr])⟩
    unfold atI
    rw [List.length_map, ← pos_ix, hj]
    show (ns.map V.int)[j]? = _
    rw [List.getElem?_map, hd]
    rfl
  · cases e
variable {E : XC} {a b : Expr} {pos : Pos}
theorem pm_ix {ma mb : Mini.M} (ha : PE X a (tM X.K E ma)) (hb : PE X b (tM X.K E mb)) (hs : PlainIx b := by exact fun _ _ => rfl) : PE X (.Subscript a b pos) (tM X.K E (Mini.mOp Mini.opIx ma mb)) := (pe_ix ix_seq ha hb hs).to
  fun σ H Q ⟨P, α, e, s, hS, q⟩ => ⟨P, α, e, s, hS, (Post.unbind q).imp fun d s1 α1 H1 g1 t1 q1 v hv => ⟨P, α1, e, s1, hS.gr g1 t1, (Post.unbind q1).imp fun d2 s2 α2 H2 g2 t2 q2 u hu => by
    obtain ⟨z, hz, q2⟩ := q2.unof
    exact ix_ok t2 (g2.dr hv) hu hz fun w H3 g3 t3 hw => q2 α2 H3 g3 t3 w hw⟩⟩
theorem om_n : L2.PO X none (tO X.K E Mini.poN) := po_none.to fun σ H Q ⟨P, α, e, s, hS, q⟩ => q.here hS.st
theorem om_s {e : Expr} {m : Mini.M} (h : PE X e (tM X.K E m)) : L2.PO X (some e) (tO X.K E (Mini.poS m)) := (po_some h).to fun σ H Q ⟨P, α, e, s, hS, q⟩ => ⟨P, α, e, s, hS, (Post.unbind q).imp fun d s1 α1 H1 g1 t1 q1 v hv => by
  cases d <;> simp only at q1 <;> first | exact q1.elim | skip
  rw [Dr] at hv
  exact ⟨_, hv, q1.here t1⟩⟩
theorem rz_tup {s : Mini.Sto} {d : Mini.D} {ds : List Mini.D} (h : Mini.rz s d = .tup ds) : d = .tup ds := by
  cases d with
  | own j =>
    simp only [Mini.rz] at h
    split at h <;> cases h
  | tup => exact h
  | _ => cases h
def rSl (K : PySem.W.Frag) : V → Option Int → Option Int → Hp → VK → Prop := fun x lo hi H Q => rSlL K x lo hi H Q ∨ (rSlA K x lo hi H Q ∨ rSlS x lo hi H Q)
theorem sl_any : SlR X (rSl X.K) := sl_list.or (sl_tupA.or sl_str)
theorem cut_drL {K : PySem.W.Frag} {G : Hp} {α : List Addr} {ds : List Mini.D} {xs : List V} (h : DrL K G α ds xs) (lo hi : Option Int) : DrL K G α (Mini.cut ds lo hi) (cutV xs lo hi) := by
  unfold Mini.cut cutV
  rw [six_ix, six_ix, h.len]
  exact (h.drop _).take _
theorem pm_sl {p2 : Pos} {ma : Mini.M} {lo hi : Option Expr} {ml mh : Mini.PO} (ha : PE X a (tM X.K E ma)) (hl : L2.PO X lo (tO X.K E ml)) (hh : L2.PO X hi (tO X.K E mh)) : PE X (.Subscript a (.Slice lo hi none p2) pos) (tM X.K E (Mini.mSl ma ml mh)) := (pe_slice sl_any ha hl hh).to
  fun σ H Q ⟨P, α, e, s, hS, q⟩ => ⟨P, α, e, s, hS, (Post.unbind q).imp fun d s1 α1 H1 g1 t1 q1 v hv => ⟨P, α1, e, s1, hS.gr g1 t1, (Post.unbind q1).imp fun o1 s2 α2 H2 g2 t2 q2 => ⟨P, α2, e, s2, hS.gr (g1.trans g2) t2, (Post.unbind q2).imp fun o2 s3 α3 H3 g3 t3 q3 => by
    obtain ⟨z, hz, q3⟩ := q3.unof
    have hv3 := rz_dr t3 (g3.dr (g2.dr hv))
    dsimp only at hz
    generalize hd' : Mini.rz s3 d = d' at hz hv3
    have k : Then X.K P α3 s3 H3 z Q := fun w H4 g4 t4 hw => q3 α3 H4 g4 t4 w hw
    unfold Mini.slD at hz
    split at hz
    · cases hz
      obtain ⟨p, xs, rfl, h1, h2⟩ := hv3
      exact .inl ⟨p, xs, rfl, .of h1, fun p hp => new_lst t3 hp (cut_drL h2 _ _) k⟩
    · cases hz
      obtain ⟨p, xs, rfl, h1, h2⟩ := hv3
      have hc := cut_drL h2 o1 o2
      refine .inr (.inl ⟨p, xs, rfl, .of h1, fun hw => ?_, fun hw p' hp => new_tup t3 hp hc k⟩)
      have e1 : cutV xs o1 o2 = xs := by unfold cutV; rw [hw.1, hw.2]; simp
      have e2 := rz_tup hd'
      subst e2
      have hv4 := g3.dr (g2.dr hv)
      rw [Dr] at hv4
      obtain ⟨a', xs', e', h', h''⟩ := hv4
      cases e'
      have : xs' = xs := by
        have := imm_sub _ _ _ _ _ h'
        rw [h1] at this
        cases this
        rfl
      subst this
      refine now k t3 ?_
      rw [Dr]
      exact ⟨p, xs', rfl, h', by rw [← e1]; exact hc⟩
    · split at hz
      · rename_i hl
        cases hz
        simp [DrH, Dr] at hv3
        subst hv3
        refine .inr (.inr ⟨_, rfl, sl hl, now k t3 ?_⟩)
        rw [Dr]
        congr 1
      · cases hz
    · cases hz
      obtain ⟨p, rfl, h1⟩ := hv3
      refine .inl ⟨p, _, rfl, h1, fun p hp => new_lst t3 hp ?_ k⟩
      have : cutV (List.map V.int ‹List Int›) o1 o2 = (Mini.cut ‹List Int› o1 o2).map V.int := by
        unfold cutV Mini.cut
        rw [six_ix, six_ix, List.length_map, List.map_take, List.map_drop]
      rw [this]
      exact DrL.ofInts _
    · cases hz⟩⟩⟩
end
end Snd
end
section
namespace Snd
open PySem L2
/-! ### built-ins of one argument -/
section
variable {X : Cx} {E : XC} {a : Expr} {pos p : Pos}
abbrev RC := List V → Hp → VK → Prop
structure Sem1 (X : Cx) (f : Value) (o : Mini.D → Option Mini.D) (r : RC) : Prop where
  op : CallR X f r
  ok : ∀ {P α s H x va d} {Q : VK}, StR X.K P α s H → Dr X.K (imm H P α) α x va → o (Mini.rz s x) = some d → Then X.K P α s H d Q → r [va] H Q
theorem one {f : Value} {o : Mini.D → Option Mini.D} {r : RC} {m : Mini.M} (S : Sem1 X f o r) : ∀ σ H Q, tM X.K E (Mini.mB o m) σ H Q → tCB r (tA X.K E (Mini.aCons m Mini.aNil)) σ H Q := fun σ H Q ⟨P, α, e, s, hS, q⟩ =>
  ⟨P, α, e, s, hS, by
    unfold Mini.mB at q
    unfold Mini.aCons
    replace q := Post.unbind q
    cases hm : m e s with
    | bad => rw [hm] at q; exact q.elim
    | exc c => rw [hm] at q; exact q
    | ok pr =>
      rw [hm] at q
      intro α1 H1 g1 t1 v hv
      have q1 := q α1 H1 g1 t1
      obtain ⟨z, hz, q1⟩ := q1.unof
      cases v with
      | nil => simp [DrL, Mini.aNil] at hv
      | cons v vs =>
        rw [DrL] at hv
        have : vs = [] := by
          have := hv.2
          cases vs with
          | nil => rfl
          | cons => simp [DrL, Mini.aNil] at this
        subst this
        exact S.ok t1 hv.1 hz fun w H2 g2 t2 hw => q1 α1 H2 g2 t2 w hw⟩
theorem pm_b1 {x : Str} {id : String} {o : Mini.D → Option Mini.D} {r : RC} {m : Mini.M} (S : Sem1 X (.builtin id) o r) (hg : Gl X x) (hm : X.mg x = none) (hv : bootBuiltins x = some (.builtin id)) (ha : PE X a (tM X.K E m))
    (hs : starEach [a] X.env = (false, eval a X.env) :: starEach [] X.env := by rfl) (hn : x ≠ "__name__" := by decide) (hd : (x == ("__debug__" : Str)) = false := by decide) : PE X (.Call (.Name x p) [a] [] pos) (tM X.K E (Mini.mB o m)) :=
  (pe_callB S.op hg hm hv (am_cons ha am_nil hs) hn hd hs).to (one S)
theorem pm_t1 {x : Str} {id : String} {o : Mini.D → Option Mini.D} {r : RC} {m : Mini.M} (S : Sem1 X (.type id) o r) (hg : Gl X x) (hm : X.mg x = none) (hv : bootBuiltins x = some (.type id)) (ha : PE X a (tM X.K E m))
    (hs : starEach [a] X.env = (false, eval a X.env) :: starEach [] X.env := by rfl) (hn : x ≠ "__name__" := by decide) (hd : (x == ("__debug__" : Str)) = false := by decide) : PE X (.Call (.Name x p) [a] [] pos) (tM X.K E (Mini.mB o m)) :=
  (pe_callTy S.op hg hm hv (am_cons ha am_nil hs) hn hd hs).to (one S)
def orC (r r' : RC) : RC := fun xs H Q => r xs H Q ∨ r' xs H Q
def rLen (K : PySem.W.Frag) : RC := fun xs H Q => ∃ x n, xs = [x] ∧ LenV K x H n ∧ Q (.int n) H
theorem sem_len : Sem1 X (.builtin "len") Mini.bLen (orC (rLen X.K) rLenT) := by
  refine ⟨call_len.or call_len_dT, ?_⟩
  intro P α s H x va d Q hs hx e k
  replace hx := rz_dr hs hx
  generalize Mini.rz s x = x' at *
  unfold Mini.bLen at e
  split at e
  · cases e
    obtain ⟨p, xs, rfl, h1, h2⟩ := hx
    exact .inl ⟨_, _, rfl, .inl ⟨xs, .of h1, rfl⟩, now k hs (by simp [Dr, h2.len])⟩
  · cases e
    obtain ⟨p, xs, rfl, h1, h2⟩ := hx
    exact .inl ⟨_, _, rfl, .inr ⟨xs, .of h1, rfl⟩, now k hs (by simp [Dr, h2.len])⟩
  · split at e
    · rename_i hl
      cases e
      simp [DrH, Dr] at hx
      subst hx
      exact .inl ⟨_, _, rfl, ⟨sl hl, rfl⟩, now k hs (by simp [Dr, Str.length])⟩
    · cases e
  · cases e
    obtain ⟨p, rfl, h1⟩ := hx
    exact .inl ⟨_, _, rfl, .inl ⟨_, h1, rfl⟩, now k hs (by simp [Dr])⟩
  · cases e
    obtain ⟨p, kvs, rfl, h1, h2⟩ := hx
    exact .inr ⟨p, kvs, rfl, h1, now k hs (by simp [Dr, h2])⟩
  · cases e
theorem sem_all (hc : X.calm = true) : Sem1 X (.builtin "all") Mini.bAll (rAll X.K) := by
  refine ⟨cr_all hc, ?_⟩
  intro P α s H x va d Q hs hx e k
  replace hx := rz_dr hs hx
  generalize Mini.rz s x = x' at *
  cases x' <;> simp [Mini.bAll] at e
  obtain ⟨bs, hb, rfl⟩ := e
  obtain ⟨p, xs, rfl, h1, h2⟩ := hx
  exact ⟨p, bs, rfl, .of (by rw [h1, h2.bls hb]), now k hs (by simp [Dr])⟩
theorem sem_any (hc : X.calm = true) : Sem1 X (.builtin "any") Mini.bAny (rAny X.K) := by
  refine ⟨cr_any hc, ?_⟩
  intro P α s H x va d Q hs hx e k
  replace hx := rz_dr hs hx
  generalize Mini.rz s x = x' at *
  cases x' <;> simp [Mini.bAny] at e
  obtain ⟨bs, hb, rfl⟩ := e
  obtain ⟨p, xs, rfl, h1, h2⟩ := hx
  exact ⟨p, bs, rfl, .of (by rw [h1, h2.bls hb]), now k hs (by simp [Dr])⟩
theorem sem_sum (hc : X.calm = true) : Sem1 X (.builtin "sum") Mini.bSum (rSum X.K) := by
  refine ⟨cr_sum hc, ?_⟩
  intro P α s H x va d Q hs hx e k
  replace hx := rz_dr hs hx
  generalize Mini.rz s x = x' at *
  cases x' <;> simp [Mini.bSum] at e
  obtain ⟨bs, hb, rfl⟩ := e
  obtain ⟨p, xs, rfl, h1, h2⟩ := hx
  exact ⟨p, bs, rfl, .of (by rw [h1, h2.zints hb]), now k hs (by simp [Dr])⟩
theorem maxI_uniq : ∀ (ns : List Int) (m : Int), m ∈ ns → (∀ y, y ∈ ns → y ≤ m) → Mini.maxI ns = m
  | [], m, h, _ => by simp at h
  | [x], m, h, _ => by simp at h; simp [Mini.maxI, h]
  | x :: y :: r, m, h, hm => by
    unfold Mini.maxI
    by_cases hx : m ∈ (y :: r)
    · rw [maxI_uniq (y :: r) m hx fun z hz => hm z (List.mem_cons_of_mem _ hz)]
      have := hm x List.mem_cons_self
      omega
    · have e : m = x := by
        rcases List.mem_cons.mp h with h | h
        · exact h
        · exact absurd h hx
      subst e
      have : Mini.maxI (y :: r) ∈ (y :: r) := by
        clear hx h hm
        induction r generalizing y with
        | nil => simp [Mini.maxI]
        | cons z r ih =>
          unfold Mini.maxI
          have := ih z
          rcases Int.le_total y (Mini.maxI (z :: r)) with q | q
          · rw [Int.max_eq_right q]; exact List.mem_cons_of_mem _ this
          · rw [Int.max_eq_left q]; exact List.mem_cons_self
      have := hm _ (List.mem_cons_of_mem _ this)
      omega
theorem sem_max (hc : X.calm = true) : Sem1 X (.builtin "max") Mini.bMax (rMax X.K) := by
  refine ⟨cr_max hc, ?_⟩
  intro P α s H x va d Q hs hx e k
  replace hx := rz_dr hs hx
  generalize Mini.rz s x = x' at *
  cases x' <;> simp only [Mini.bMax] at e <;> first | cases e | skip
  split at e
  · rename_i n ns hb
    cases e
    obtain ⟨p, xs, rfl, h1, h2⟩ := hx
    exact ⟨p, n :: ns, rfl, .of (by rw [h1, h2.zints hb]), by simp, fun m h3 h4 => now k hs (by rw [maxI_uniq _ m h3 h4]; simp [Dr])⟩
  · cases e
theorem sem_int : Sem1 X (.type "int") Mini.bInt (fun xs H Q => (∃ i, xs = [.int i] ∧ Q (.int i) H) ∨ ∃ k, xs = [.bl k] ∧ Q (.int (if k then 1 else 0)) H) := by
  refine ⟨call_int1, ?_⟩
  intro P α s H x va d Q hs hx e k
  replace hx := rz_dr hs hx
  generalize Mini.rz s x = x' at *
  cases x' <;> simp [Mini.bInt] at e
  · subst e; simp [DrH, Dr] at hx; subst hx
    exact .inr ⟨_, rfl, now k hs (by simp [Dr])⟩
  · subst e; simp [DrH, Dr] at hx; subst hx
    exact .inl ⟨_, rfl, now k hs (by simp [Dr])⟩
theorem sem_list : Sem1 X (.type "list") Mini.bList (fun xs H Q => ∃ p ys, xs = [.ref p] ∧ (SqL X.K H p ys ∨ SqT X.K H p ys) ∧ ∀ l, H l = none → Q (.ref l) (upd H l (.lst ys))) := by
  refine ⟨call_list_of, ?_⟩
  intro P α s H x va d Q hs hx e k
  replace hx := rz_dr hs hx
  generalize Mini.rz s x = x' at *
  cases x' <;> simp [Mini.bList] at e
  subst e
  obtain ⟨p, xs, rfl, h1, h2⟩ := hx
  exact ⟨p, xs, rfl, .inl (.of h1), fun l hl => new_lst hs hl h2 k⟩
theorem sem_tup : Sem1 X (.type "tuple") Mini.bTup (fun xs H Q => ∃ p ys, xs = [.ref p] ∧ ((SqL X.K H p ys ∧ ∀ l, H l = none → Q (.ref l) (upd H l (.tup ys))) ∨ (SqT X.K H p ys ∧ Q (.ref p) H))) := by
  refine ⟨call_tuple_of, ?_⟩
  intro P α s H x va d Q hs hx e k
  have hx0 := hx
  replace hx := rz_dr hs hx
  generalize hrz : Mini.rz s x = x' at *
  cases x' <;> simp [Mini.bTup] at e
  · subst e
    have := rz_tup hrz
    subst this
    obtain ⟨p, xs, rfl, h1, h2⟩ := hx
    exact ⟨p, xs, rfl, .inr ⟨.of h1, now k hs hx0⟩⟩
  · subst e
    obtain ⟨p, xs, rfl, h1, h2⟩ := hx
    exact ⟨p, xs, rfl, .inl ⟨.of h1, fun l hl => new_tup hs hl h2.nil_any k⟩⟩
/-! ### of two: min, max, isinstance -/
theorem pm_b2 {x : Str} {b : Expr} {id : String} {o : Mini.Op} {f : Int → Int → Int} {ma mb : Mini.M} (ho : ∀ s x y, o s x y = match x, y with | .int i, .int j => some (.int (f i j)) | _, _ => none) (op : CallR X (.builtin id) (fun xs H Q => ∃ i j, xs = [.int i, .int j] ∧ Q (.int (f i j)) H)) (hg : Gl X x) (hm : X.mg x = none) (hv : bootBuiltins x = some (.builtin id))
    (ha : PE X a (tM X.K E ma)) (hb : PE X b (tM X.K E mb)) (hs : starEach [a, b] X.env = (false, eval a X.env) :: starEach [b] X.env := by rfl) (hs2 : starEach [b] X.env = (false, eval b X.env) :: starEach [] X.env := by rfl) (hn : x ≠ "__name__" := by decide) (hd : (x == ("__debug__" : Str)) = false := by decide) (hpl : (backTo pos (starEach [b] X.env)).any (·.1) = false := by rfl) :
    PE X (.Call (.Name x p) [a, b] [] pos) (tM X.K E (Mini.mOp o ma mb)) := (pe_callB op hg hm hv (pa_cons ha (pa_cons hb pa_nil hs2) hs) hn hd hs hpl).to
  fun σ H Q ⟨P, α, e, s, hS, q⟩ => ⟨P, α, e, s, hS, (Post.unbind q).imp fun d s1 α1 H1 g1 t1 q1 v hv => ⟨P, α1, e, s1, hS.gr g1 t1, (Post.unbind q1).imp fun d2 s2 α2 H2 g2 t2 q2 u hu => by
    obtain ⟨z, hz, q2⟩ := q2.unof
    have h1 := rz_dr t2 (g2.dr hv)
    have h2 := rz_dr t2 hu
    dsimp only at hz
    generalize Mini.rz s2 d = x' at *
    generalize Mini.rz s2 d2 = y' at *
    rw [ho] at hz
    split at hz
    · cases hz
      simp [DrH, Dr] at h1 h2
      subst h1; subst h2
      exact ⟨_, _, rfl, q2 α2 H2 (Gr.refl _ _ _) t2 _ (by simp [Dr])⟩
    · cases hz⟩⟩
theorem min_of (s : Mini.Sto) (x y : Mini.D) : Mini.opMin s x y = match x, y with | .int i, .int j => some (.int (if j < i then j else i)) | _, _ => none := by
  cases x <;> cases y <;> rfl
theorem max_of (s : Mini.Sto) (x y : Mini.D) : Mini.opMax s x y = match x, y with | .int i, .int j => some (.int (if j > i then j else i)) | _, _ => none := by
  cases x <;> cases y <;> rfl
def tyS : Mini.Ty → String
  | .bool => "bool" | .int => "int" | .str => "str" | .tuple => "tuple" | .list => "list"
theorem ty_ok {K : PySem.W.Frag} {H G : Hp} {α : List Addr} {t : Mini.Ty} {d z : Mini.D} {v : V} (h : DrH K H G α d v) (e : Mini.isTy t d = some z) : ∃ u b, TyX K H v (.type u) ∧ kitB u (tyS t) = some b ∧ z = .bl b := by
  cases d with
  | non => simp [DrH, Dr] at h; subst h; cases e; exact ⟨_, _, .base .non, by cases t <;> decide +kernel, rfl⟩
  | bl => simp [DrH, Dr] at h; subst h; cases e; exact ⟨_, _, .base (.bl _), by cases t <;> decide +kernel, rfl⟩
  | int => simp [DrH, Dr] at h; subst h; cases e; exact ⟨_, _, .base (.int _), by cases t <;> decide +kernel, rfl⟩
  | str => simp [DrH, Dr] at h; subst h; cases e; exact ⟨_, _, .base (.str _), by cases t <;> decide +kernel, rfl⟩
  | tup => obtain ⟨a, xs, rfl, h1, _⟩ := h; cases e; exact ⟨_, _, .base (.tup h1), by cases t <;> decide +kernel, rfl⟩
  | lst => obtain ⟨a, xs, rfl, h1, _⟩ := h; cases e; exact ⟨_, _, .base (.lst h1), by cases t <;> decide +kernel, rfl⟩
  | scr => cases e
  | dic => cases e
  | own => cases e
theorem pm_isi {t : Mini.Ty} {x : Str} {p2 : Pos} {ma : Mini.M} (hg : Gl X "isinstance") (hm : X.mg "isinstance" = none) (hg2 : Gl X x) (hm2 : X.mg x = none) (ha : PE X a (tM X.K E ma)) (hv2 : bootBuiltins x = some (.type (tyS t)) := by decide +kernel)
    (hn2 : x ≠ "__name__" := by decide) (hd2 : (x == ("__debug__" : Str)) = false := by decide)
    (hs : starEach [a, .Name x p2] X.env = (false, eval a X.env) :: starEach [.Name x p2] X.env := by rfl) (hs2 : starEach [.Name x p2] X.env = (false, eval (.Name x p2) X.env) :: starEach [] X.env := by rfl) (hpl : (backTo pos (starEach [.Name x p2] X.env)).any (·.1) = false := by rfl) :
    PE X (.Call (.Name "isinstance" p) [a, .Name x p2] [] pos) (tM X.K E (Mini.mB (Mini.isTy t) ma)) :=
  (pe_callB call_isi hg hm (by decide +kernel) (pa_cons ha (pa_cons (pe_bltn (v := .ty (tyS t)) hg2 hm2 hv2 rfl hn2 hd2) pa_nil hs2) hs) (by decide) (by decide) hs hpl).to
  fun σ H Q ⟨P, α, e, s, hS, q⟩ => ⟨P, α, e, s, hS, (Post.unbind q).imp fun d s1 α1 H1 g1 t1 q1 v hv => by
    obtain ⟨z, hz, q1⟩ := q1.unof
    obtain ⟨u, b, h1, h2, rfl⟩ := ty_ok (rz_dr t1 hv) hz
    exact ⟨_, _, _, _, b, rfl, .ty _, h1, kit_ty h2, q1.here t1 _ (by simp [Dr])⟩⟩
/-! ### join -/
theorem glue_join (z : List Nat) : ∀ xs : List (List Nat), Str.join ⟨z.toArray⟩ (xs.map fun x => (⟨x.toArray⟩ : Str)) = ⟨(Mini.glue z xs).toArray⟩
  | [] => rfl
  | [x] => rfl
  | x :: y :: r => by
    have ih := glue_join z (y :: r)
    simp only [List.map_cons] at ih ⊢
    show (⟨x.toArray⟩ : Str) ++ ⟨z.toArray⟩ ++ Str.join ⟨z.toArray⟩ _ = _
    rw [ih]
    show (⟨(x.toArray ++ z.toArray) ++ (Mini.glue z (y :: r)).toArray⟩ : Str) = ⟨(x ++ z ++ Mini.glue z (y :: r)).toArray⟩
    congr 1
    simp
theorem pm_join {sep : Str} {z : List Nat} {j : Nat} {p2 apos : Pos} {m : Mini.M} (ha : PE X a (tM X.K E m)) (hz : sep = ⟨z.toArray⟩ := by decide +kernel) (hs : starEach [a] X.env = [(false, eval a X.env)] := by rfl)
    (hbase : attributeBase (.Constant (.str sep) j p2) "join" X.env (eval (.Constant (.str sep) j p2) X.env) = eval (.Constant (.str sep) j p2) X.env := by rfl) (hline : (apos.endLine == pos.line) = true := by rfl) :
    PE X (.Call (.Attribute (.Constant (.str sep) j p2) "join" apos) [a] [] pos) (tM X.K E (Mini.mB (Mini.joinD z) m)) :=
  (pe_join (pe_str) ha hs hbase hline).to fun σ H Q ⟨P, α, e, s, hS, q⟩ => ⟨⟨_, rfl⟩, P, α, e, s, hS, (Post.unbind q).imp fun d s1 α1 H1 g1 t1 q1 v hv => by
    obtain ⟨w, hw, q1⟩ := q1.unof
    have h1 := rz_dr t1 hv
    dsimp only at hw
    generalize Mini.rz s1 d = x' at *
    cases x' <;> simp only [Mini.joinD] at hw <;> first | cases hw | skip
    obtain ⟨xs, hx, hw⟩ := Option.bind_eq_some_iff.mp hw
    split at hw
    · rename_i hl
      cases hw
      obtain ⟨p, ys, rfl, h2, h3⟩ := h1
      have e1 := h3.zstrs hx
      subst hz
      refine ⟨_, p, xs.map fun x => (⟨x.toArray⟩ : Str), rfl, rfl, .inl (.of ?_), ?_, q1.here t1 _ ?_⟩
      · rw [h2, e1, List.map_map]
        rfl
      · rw [List.map_map, List.length_map]
        exact hl
      · rw [Dr, TL.join_eq, glue_join]
    · cases hw⟩
end
end Snd
end
section
namespace Snd
open PySem L2
section
variable {K : PySem.W.Frag} {P α : List Addr} {s : Mini.Sto} {H H' : Hp}
theorem imm_app (H : Hp) (P α : List Addr) : imm H (P ++ α) [] = imm H P α := by
  funext b
  unfold imm
  simp [List.mem_append]
/-- everything that is known stays -/
theorem StR.ext (h : StR K P α s H) (e : Ext H H') : Gr P α H α H' ∧ StR K P α s H' := by
  have x : Ext (imm H P α) (imm H' P α) := fun b o q => by
    rw [imm_some] at q ⊢
    exact ⟨q.1, q.2.1, e b o q.2.2⟩
  refine ⟨⟨fun _ _ q => q, x, fun b _ o q => e b o q⟩, h.nd, h.dis, fun b hb => ?_, h.len, fun k o a h1 h2 => ?_⟩
  · intro z
    cases q : H b with
    | none => exact h.pt b hb q
    | some o => rw [e b o q] at z; cases z
  · have q := h.ob k o a h1 h2
    cases z : H a with
    | none => exact absurd z q.some_of
    | some u =>
      rw [e a u z, ← z]
      exact q.mono x
/-- an owned object is changed -/
theorem StR.chg (h : StR K P α s H) {k : Nat} {a : Addr} {o : Mini.Ob} {ho : HO} (ha : α[k]? = some a) (hk : k < s.length) (r : ObR K (imm H P α) o (some ho)) : Gr P α H α (upd H a ho) ∧ StR K P α (s.set k o) (upd H a ho) := by
  have hm : a ∈ α := List.mem_of_getElem? ha
  have ei : imm (upd H a ho) P α = imm H P α := by
    funext b
    unfold imm
    split
    · rfl
    · rename_i q
      rw [upd_ne (show b ≠ a from fun z => q (.inr (z ▸ hm)))]
  refine ⟨⟨fun _ _ q => q, by rw [ei]; exact Ext.refl _, fun b hb u q => ?_⟩, h.nd, h.dis, fun b hb => ?_, by simp [h.len], fun j u c h1 h2 => ?_⟩
  · rw [upd_ne (show b ≠ a from fun z => h.dis a hm (z ▸ hb))]; exact q
  · rw [upd_ne (show b ≠ a from fun z => h.dis a hm (z ▸ hb))]; exact h.pt b hb
  · rw [ei]
    by_cases hj : k = j
    · subst hj
      rw [ha] at h2
      cases h2
      rw [upd_same]
      rw [List.getElem?_set_self hk] at h1
      cases h1
      exact r
    · rw [List.getElem?_set_ne hj] at h1
      have : c ≠ a := fun z => by
        subst z
        have hj1 : j < α.length := (List.getElem?_eq_some_iff.mp h2).1
        have hk1 : k < α.length := (List.getElem?_eq_some_iff.mp ha).1
        have e1 := (List.getElem?_eq_some_iff.mp h2).2
        have e2 := (List.getElem?_eq_some_iff.mp ha).2
        exact hj ((List.getElem_inj h.nd).mp (e2.trans e1.symm))
      rw [upd_ne this]
      exact h.ob j u c h1 h2
/-- a new object that is ours alone -/
theorem StR.newOwn (h : StR K P α s H) {p : Addr} {o : Mini.Ob} {ho : HO} (hp : H p = none) (r : ObR K (imm H P α) o (some ho)) :
    Gr P α H (α ++ [p]) (upd H p ho) ∧ StR K P (α ++ [p]) (s ++ [o]) (upd H p ho) ∧ (α ++ [p])[s.length]? = some p := by
  have n1 : p ∉ P := fun z => h.pt p z hp
  have n2 : p ∉ α := fun z => h.there z hp
  have e : Ext (imm H P α) (imm (upd H p ho) P (α ++ [p])) := fun b u q => by
    rw [imm_some] at q ⊢
    have : b ≠ p := ne_of_none q.2.2 hp
    exact ⟨q.1, by simp [q.2.1, this], by rw [upd_ne this]; exact q.2.2⟩
  have el : (α ++ [p])[s.length]? = some p := by rw [h.len]; simp
  refine ⟨⟨fun k a q => ?_, e, fun b hb u q => by rw [upd_ne (ne_of_none q hp)]; exact q⟩, ⟨?_, ?_, fun b hb => ?_, by simp [h.len], fun j u c h1 h2 => ?_⟩, el⟩
  · rw [List.getElem?_append_left (List.getElem?_eq_some_iff.mp q).1]; exact q
  · rw [List.nodup_append]
    exact ⟨h.nd, by simp, fun a ha b hb z => by simp at hb; subst hb; subst z; exact n2 ha⟩
  · intro a ha
    rcases List.mem_append.mp ha with ha | ha
    · exact h.dis a ha
    · simp at ha; subst ha; exact n1
  · rw [upd_ne (show b ≠ p from fun z => n1 (z ▸ hb))]; exact h.pt b hb
  · by_cases hj : j < s.length
    · rw [List.getElem?_append_left hj] at h1
      rw [List.getElem?_append_left (by rw [← h.len]; exact hj)] at h2
      have hc : c ∈ α := List.mem_of_getElem? h2
      rw [upd_ne (show c ≠ p from fun z => n2 (z ▸ hc))]
      exact (h.ob j u c h1 h2).mono e
    · have hj2 : j < (s ++ [o]).length := (List.getElem?_eq_some_iff.mp h1).1
      have : j = s.length := by simp at hj2; omega
      subst this
      rw [el] at h2
      cases h2
      simp at h1
      subst h1
      rw [upd_same]
      exact r.mono e
end
section
variable {X : Cx} {E : XC} {a : Expr} {pos apos p : Pos}
/-! ### methods of an owned list -/
theorem own_at {K : PySem.W.Frag} {P α : List Addr} {s : Mini.Sto} {H : Hp} (hs : StR K P α s H) {k : Nat} {v : V} (h : Dr K (imm H P α) α (.own k) v) : ∃ b, α[k]? = some b ∧ v = .ref b := by
  rw [Dr] at h; exact h
theorem pm_app {o : Expr} {mo ma : Mini.M} (ho : PE X o (tM X.K E mo)) (ha : PE X a (tM X.K E ma)) (hs : starEach [a] X.env = (false, eval a X.env) :: starEach [] X.env := by rfl)
    (h1 : attributeBase o "append" X.env (eval o X.env) = eval o X.env := by rfl) (h2 : (apos.endLine == pos.line) = true := by rfl) (hfew : ((backTo pos (starEach (a :: []) X.env)).all (fun x => !x.1) && (backToKw pos (keywordEach [] X.env)).all (fun x => x.1.isSome)
      && decide ((a :: []).length + ([] : List Keyword).length + (if ([] : List Keyword).isEmpty then 0 else 1) < 30)) = true := by rfl) :
    PE X (.Call (.Attribute o "append" apos) [a] [] pos) (tM X.K E (Mini.mApp mo ma)) :=
  (pe_bm PySem.F.plainAttrs_list PySem.F.slot_list_append PySem.F.type_list_append mt_append ho (pa_cons ha pa_nil hs) h1 hfew h2 hs).to fun σ H Q ⟨P, α, e, s, hS, q⟩ =>
  ⟨P, α, e, s, hS, (Post.unbind q).imp fun d s1 α1 H1 g1 t1 q1 v hv => by
    cases d <;> simp only at q1 <;> first | exact q1.elim | skip
    rename_i k
    cases hk : s1[k]? with
    | none => rw [hk] at q1; exact q1.elim
    | some ob =>
      cases ob with
      | DI _ => rw [hk] at q1; exact q1.elim
      | DT _ => rw [hk] at q1; exact q1.elim
      | L ds =>
        rw [hk] at q1
        obtain ⟨b, hb, rfl, xs, hx, hd⟩ := own_ob t1 hv hk
        refine ⟨.inl ⟨rfl, xs, .of hx⟩, P, α1, e, s1, hS.gr g1 t1, (Post.unbind q1).imp fun d2 s2 α2 H2 g2 t2 q2 u hu => ?_⟩
        dsimp only at q2
        have hb2 := g2.pre k b hb
        cases hk2 : s2[k]? with
        | none => rw [hk2] at q2; exact q2.elim
        | some ob =>
          cases ob with
          | DI _ => rw [hk2] at q2; exact q2.elim
          | DT _ => rw [hk2] at q2; exact q2.elim
          | L ds2 =>
            rw [hk2] at q2
            obtain ⟨⟨c1, c2⟩, q2⟩ := q2.unite
            obtain ⟨xs2, hx2, hd2⟩ := t2.ob k _ b hk2 hb2
            have r : ObR X.K (imm H2 P α2) (.L (ds2 ++ [d2])) (some (.lst (xs2 ++ [u]))) := ⟨_, rfl, hd2.append (by simp only [DrL]; exact ⟨Dr.free c2 hu, trivial⟩)⟩
            obtain ⟨g3, t3⟩ := t2.chg hb2 (List.getElem?_eq_some_iff.mp hk2).1 r
            exact ⟨b, xs2, u, rfl, rfl, hx2, slt (by rw [← hd2.len]; exact c1), q2 α2 _ g3 t3 .non (by simp [Dr])⟩⟩
theorem pm_pop {o : Expr} {mo : Mini.M} (ho : PE X o (tM X.K E mo)) (h1 : attributeBase o "pop" X.env (eval o X.env) = eval o X.env := by rfl) (h2 : (apos.endLine == pos.line) = true := by rfl) :
    PE X (.Call (.Attribute o "pop" apos) [] [] pos) (tM X.K E (Mini.mPop mo)) :=
  (pe_bm0 PySem.F.plainAttrs_list PySem.F.slot_list_pop PySem.F.type_list_pop mt_pop ho h1 h2).to fun σ H Q ⟨P, α, e, s, hS, q⟩ =>
  ⟨P, α, e, s, hS, (Post.unbind q).imp fun d s1 α1 H1 g1 t1 q1 v hv => by
    cases d <;> simp only at q1 <;> first | exact q1.elim | skip
    rename_i k
    cases hk : s1[k]? with
    | none => rw [hk] at q1; exact q1.elim
    | some ob =>
      cases ob with
      | DI _ => rw [hk] at q1; exact q1.elim
      | DT _ => rw [hk] at q1; exact q1.elim
      | L ds =>
        rw [hk] at q1
        dsimp only at q1
        obtain ⟨b, hb, rfl, xs, hx, hd⟩ := own_ob t1 hv hk
        cases hl : ds[ds.length - 1]? with
        | none => rw [hl] at q1; exact q1.elim
        | some z =>
          rw [hl] at q1
          obtain ⟨y, hy, hz⟩ := hd.at hl
          have r : ObR X.K (imm H1 P α1) (.L ds.dropLast) (some (.lst xs.dropLast)) := ⟨_, rfl, hd.dropLast⟩
          obtain ⟨g3, t3⟩ := t1.chg hb (List.getElem?_eq_some_iff.mp hk).1 r
          exact ⟨.inl ⟨rfl, xs, .of hx⟩, b, xs, y, rfl, rfl, hx, by rw [← hd.len]; exact hy, q1 α1 _ g3 t3 y (g3.dr hz.nil_any)⟩⟩
theorem upd_of {f : List Mini.D → List Mini.D} {g : List V → List V} {r : V → List V → Hp → VK → Prop} {mo : Mini.M} (hf : ∀ {K G ds xs}, DrL K G [] ds xs → DrL K G [] (f ds) (g xs))
    (hr : ∀ (b : Addr) (xs : List V) (H : Hp) (Q : VK), H b = some (.lst xs) → Q .non (upd H b (.lst (g xs))) → r (.ref b) [] H Q) : ∀ σ H Q, tM X.K E (Mini.mUpd f mo) σ H Q → tBM0 X.K "list" r (tM X.K E mo) σ H Q := fun σ H Q ⟨P, α, e, s, hS, q⟩ =>
  ⟨P, α, e, s, hS, (Post.unbind q).imp fun d s1 α1 H1 g1 t1 q1 v hv => by
    cases d <;> simp only at q1 <;> first | exact q1.elim | skip
    rename_i k
    cases hk : s1[k]? with
    | none => rw [hk] at q1; exact q1.elim
    | some ob =>
      cases ob with
      | DI _ => rw [hk] at q1; exact q1.elim
      | DT _ => rw [hk] at q1; exact q1.elim
      | L ds =>
        rw [hk] at q1
        dsimp only at q1
        obtain ⟨b, hb, rfl, xs, hx, hd⟩ := own_ob t1 hv hk
        have r : ObR X.K (imm H1 P α1) (.L (f ds)) (some (.lst (g xs))) := ⟨_, rfl, hf hd⟩
        obtain ⟨g3, t3⟩ := t1.chg hb (List.getElem?_eq_some_iff.mp hk).1 r
        exact ⟨.inl ⟨rfl, xs, .of hx⟩, hr b xs H1 Q hx (q1 α1 _ g3 t3 .non (by simp [Dr]))⟩⟩
theorem pm_rev {o : Expr} {mo : Mini.M} (ho : PE X o (tM X.K E mo)) (h1 : attributeBase o "reverse" X.env (eval o X.env) = eval o X.env := by rfl) (h2 : (apos.endLine == pos.line) = true := by rfl) :
    PE X (.Call (.Attribute o "reverse" apos) [] [] pos) (tM X.K E (Mini.mRev mo)) :=
  (pe_bm0 PySem.F.plainAttrs_list PySem.F.slot_list_reverse PySem.F.type_list_reverse mt_reverse ho h1 h2).to (upd_of (g := List.reverse) (fun h => h.reverse) fun b xs H Q h q => ⟨b, xs, rfl, rfl, h, q⟩)
theorem pm_clear {o : Expr} {mo : Mini.M} (ho : PE X o (tM X.K E mo)) (h1 : attributeBase o "clear" X.env (eval o X.env) = eval o X.env := by rfl) (h2 : (apos.endLine == pos.line) = true := by rfl) :
    PE X (.Call (.Attribute o "clear" apos) [] [] pos) (tM X.K E (Mini.mClear mo)) :=
  (pe_bm0 PySem.F.plainAttrs_list PySem.F.slot_list_clear PySem.F.type_list_clear mt_clear ho h1 h2).to (upd_of (g := fun _ => []) (fun h => by simp [DrL]) fun b xs H Q h q => ⟨b, xs, rfl, rfl, h, q⟩)
/-- len of an owned dict -/
theorem pm_lenD {m : Mini.M} (hg : Gl X "len") (hm : X.mg "len" = none) (ha : PE X a (tM X.K E m)) (hs : starEach [a] X.env = (false, eval a X.env) :: starEach [] X.env := by rfl) :
    PE X (.Call (.Name "len" p) [a] [] pos) (tM X.K E (Mini.mLenD m)) := (pe_callB call_len_dT hg hm (by decide +kernel) (pa_cons ha pa_nil hs) (by decide) (by decide) hs).to fun σ H Q ⟨P, α, e, s, hS, q⟩ =>
  ⟨P, α, e, s, hS, (Post.unbind q).imp fun d s1 α1 H1 g1 t1 q1 v hv => by
    cases d <;> simp only at q1 <;> first | exact q1.elim | skip
    rename_i k
    cases hk : s1[k]? with
    | none => rw [hk] at q1; exact q1.elim
    | some ob =>
      cases ob with
      | DI _ => rw [hk] at q1; exact q1.elim
      | L _ => rw [hk] at q1; exact q1.elim
      | DT ks =>
        rw [hk] at q1
        obtain ⟨b, hb, rfl, hx⟩ := own_ob t1 hv hk
        rw [ObR] at hx
        exact ⟨b, _, rfl, hx, q1.here t1 _ (by simp [Dr])⟩⟩
theorem pm_dnewT : PE X (.Dict [] [] pos) (tM X.K E Mini.mOwnDT) := pe_dnewT.to fun σ H Q ⟨P, α, e, s, hS, q⟩ p hp => by
  obtain ⟨g2, t2, el⟩ := hS.st.newOwn (o := .DT []) (ho := .dT []) hp (by rw [ObR]; rfl)
  exact q _ _ g2 t2 _ (by rw [Dr]; exact ⟨p, el, rfl⟩)
theorem pm_dnewI : PE X (.Dict [] [] pos) (tM X.K E Mini.mOwnDI) := pe_dnewK.to fun σ H Q ⟨P, α, e, s, hS, q⟩ p hp => by
  obtain ⟨g2, t2, el⟩ := hS.st.newOwn (o := .DI []) (ho := .dK []) hp (by rw [ObR]; rfl)
  exact q _ _ g2 t2 _ (by rw [Dr]; exact ⟨p, el, rfl⟩)

/-! ### calls -/
def spP (K : PySem.W.Frag) (C : Nat → Addr) (n : Nat) (φ : List Mini.D → Mini.R Mini.D) : Sp := fun vs H Q E => vs.length = n ∧ ∃ (P : List Addr) (ds : List Mini.D), (∀ b ∈ P, H b ≠ none) ∧ DrL K (imm H P []) [] ds vs ∧
  match φ ds with
  | .ok d => ∀ v H', Ext H H' → Dr K (imm H' P []) [] d v → Q v H'
  | .exc c => ∀ oe H', Ext H H' → E (.ref (C c)) oe H'
  | .bad => False
def spG (K : PySem.W.Frag) (C : Nat → Addr) (n : Nat) (φ : Mini.F) : Sp := fun vs H Q E => vs.length = n ∧ ∃ (P α : List Addr) (s : Mini.Sto) (ds : List Mini.D), StR K P α s H ∧ DrL K (imm H P α) α ds vs ∧
  Post K (fun c oe H' => E (.ref (C c)) oe H') P α H (φ ds s) fun d s' α' H' => ∀ v, Dr K (imm H' P α') α' d v → Q v H'
variable {CX : CXT} {C : Nat → Addr} {n k : Nat} {f : Addr} {fd : FuncData} {ps : List Str} {x : Str} {EK : XK} {e : Expr} {es : List Expr}
theorem pm_call {φ : List Mini.D → Mini.R Mini.D} {ma : Mini.A} (F : FnOk X.prog X.w X.K X.mg X.base CX k f fd ps (spP X.K C (e :: es).length φ)) (hr : Room k X.A) (hg : Gl X x) (hm : X.mg x = some (.ref f)) (hk : PySem.W.keepIn X.K (.ref f) = true) (hb : Binds X.K fd ps [])
    (hx : Passes CX X EK) (hE : ∀ c oe H, E c oe H → EK (.ref (C c)) oe H) (ha : PA X (e :: es) (tA X.K E ma)) (hn : ∀ e' s ds s', ma e' s = .ok (ds, s') → ds.length = (e :: es).length) (hdb : (x == ("__debug__" : Str)) = false := by decide)
    (he : starEach (e :: es) X.env = (false, eval e X.env) :: starEach es X.env := by rfl) (hpl : (backTo pos (starEach es X.env)).any (·.1) = false := by rfl) :
    PE X (.Call (.Name x p) (e :: es) [] pos) (tM X.K E (Mini.mCall φ ma)) := (pe_call F hr hg hm hk hb .nil hx ha hdb he hpl).to fun σ H Q ⟨P, α, e, s, hS, q⟩ => by
  refine ⟨P, α, e, s, hS, ?_⟩
  replace q := Post.unbind q
  cases hma : ma e s with
  | bad => rw [hma] at q; exact q.elim
  | exc c => rw [hma] at q; exact q
  | ok pr =>
    rw [hma] at q
    intro α1 H1 g1 t1 vs hvs
    have q1 := q α1 H1 g1 t1
    obtain ⟨hc, q1⟩ := q1.unite
    rw [List.append_nil]
    refine ⟨by rw [← hvs.len]; exact hn e s pr.1 pr.2 hma, P ++ α1, pr.1, fun b hb => ?_, by rw [imm_app]; exact t1.chk hc hvs, ?_⟩
    · rcases List.mem_append.mp hb with hb | hb
      · exact t1.pt b hb
      · exact t1.there hb
    · cases hφ : φ pr.1 with
      | bad => rw [hφ] at q1; exact q1
      | exc c =>
        rw [hφ] at q1
        exact fun oe H' hx => hE c oe H' (q1 oe α1 H' (t1.ext hx).1)
      | ok d =>
        rw [hφ] at q1
        intro v H' hx hd
        rw [imm_app] at hd
        exact q1 α1 H' (t1.ext hx).1 (t1.ext hx).2 v hd.nil_any
theorem pm_callG {φ : Mini.F} {ma : Mini.A} (F : FnOk X.prog X.w X.K X.mg X.base CX k f fd ps (spG X.K C (e :: es).length φ)) (hr : Room k X.A) (hg : Gl X x) (hm : X.mg x = some (.ref f)) (hk : PySem.W.keepIn X.K (.ref f) = true) (hb : Binds X.K fd ps [])
    (hx : Passes CX X EK) (hE : ∀ c oe H, E c oe H → EK (.ref (C c)) oe H) (ha : PA X (e :: es) (tA X.K E ma)) (hn : ∀ e' s ds s', ma e' s = .ok (ds, s') → ds.length = (e :: es).length) (hdb : (x == ("__debug__" : Str)) = false := by decide)
    (he : starEach (e :: es) X.env = (false, eval e X.env) :: starEach es X.env := by rfl) (hpl : (backTo pos (starEach es X.env)).any (·.1) = false := by rfl) :
    PE X (.Call (.Name x p) (e :: es) [] pos) (tM X.K E (Mini.mCallG φ ma)) := (pe_call F hr hg hm hk hb .nil hx ha hdb he hpl).to fun σ H Q ⟨P, α, e, s, hS, q⟩ => by
  refine ⟨P, α, e, s, hS, ?_⟩
  replace q := Post.unbind q
  cases hma : ma e s with
  | bad => rw [hma] at q; exact q.elim
  | exc c => rw [hma] at q; exact q
  | ok pr =>
    rw [hma] at q
    intro α1 H1 g1 t1 vs hvs
    have q1 := q α1 H1 g1 t1
    rw [List.append_nil]
    refine ⟨by rw [← hvs.len]; exact hn e s pr.1 pr.2 hma, P, α1, pr.2, pr.1, t1, hvs, ?_⟩
    dsimp only at q1
    cases hφ : φ pr.1 pr.2 with
    | bad => rw [hφ] at q1; exact q1
    | exc c =>
      rw [hφ] at q1
      exact fun oe α' H' g => hE c oe H' (q1 oe α' H' g)
    | ok d =>
      rw [hφ] at q1
      exact q1
/-! ### a part, while what is owned stands still -/
theorem fz_dr {K : PySem.W.Frag} {P α : List Addr} {s : Mini.Sto} {H : Hp} (hs : StR K P α s H) {d d' : Mini.D} {v : V} (h : Dr K (imm H P α) α d v) (e : Mini.fzD s d = some d') : Dr K (imm H P []) [] d' v := by
  have x : Ext (imm H P α) (imm H P []) := fun b o q => by
    rw [imm_some] at q ⊢
    exact ⟨q.1, by simp, q.2.2⟩
  cases d with
  | own k =>
    simp only [Mini.fzD] at e
    cases hk : s[k]? with
    | none => rw [hk] at e; cases e
    | some o =>
      cases o with
      | DI _ => rw [hk] at e; cases e
      | DT _ => rw [hk] at e; cases e
      | L ds =>
        rw [hk] at e
        cases e
        obtain ⟨b, hb, rfl, xs, hx, hd⟩ := own_ob hs h hk
        rw [Dr]
        exact ⟨b, xs, rfl, imm_some.mpr ⟨hs.dis b (List.mem_of_getElem? hb), by simp, hx⟩, DrL.mono x (fun _ _ q => q) hd⟩
  | tup ds =>
    simp only [Mini.fzD] at e
    split at e
    · rename_i hf
      cases e
      have f : Mini.free (.tup ds) = true := by rw [Mini.free]; exact hf
      exact Dr.mono x (fun _ _ q => by simp at q) (Dr.free (α' := []) f h)
    · cases e
  | lst ds =>
    cases e
    rw [Dr] at h ⊢
    obtain ⟨a, xs, h1, h2, h3⟩ := h
    exact ⟨a, xs, h1, x _ _ h2, DrL.mono x (fun _ _ q => q) h3⟩
  | scr ns =>
    cases e
    rw [Dr] at h ⊢
    obtain ⟨a, h1, h2⟩ := h
    exact ⟨a, h1, x.sqL h2⟩
  | dic n =>
    cases e
    rw [Dr] at h ⊢
    obtain ⟨a, kvs, h1, h2, h3⟩ := h
    exact ⟨a, kvs, h1, x _ _ h2, h3⟩
  | non => cases e; rw [Dr] at h ⊢; exact h
  | bl _ => cases e; rw [Dr] at h ⊢; exact h
  | int _ => cases e; rw [Dr] at h ⊢; exact h
  | str _ => cases e; rw [Dr] at h ⊢; exact h
theorem Gr.all {P α : List Addr} {H H' : Hp} (g : Gr P [] H α H') : Ext H H' := fun b o q => by
  by_cases hb : b ∈ P
  · exact g.keep b hb o q
  · exact imm_sub _ _ _ _ _ (g.ext b o (imm_some.mpr ⟨hb, by simp, q⟩))
theorem flat_dr {K : PySem.W.Frag} {G G' : Hp} {α α' : List Addr} {d : Mini.D} {v : V} (f : Mini.flat d = true) (h : Dr K G α d v) : Dr K G' α' d v := by
  cases d <;> simp [Mini.flat] at f <;> rw [Dr] at h ⊢ <;> exact h
mutual
theorem noL_dr {K : PySem.W.Frag} {G G' : Hp} {α α' : List Addr} (e : ∀ a xs, G a = some (.tup xs) → G' a = some (.tup xs)) : ∀ {d : Mini.D} {v : V}, Mini.noL d = true → Dr K G α d v → Dr K G' α' d v
  | .non, v, _, h => by simpa [Dr] using h
  | .bl b, v, _, h => by simpa [Dr] using h
  | .int i, v, _, h => by simpa [Dr] using h
  | .str s, v, _, h => by simpa [Dr] using h
  | .tup ds, v, f, h => by
    rw [Dr] at h ⊢
    obtain ⟨a, xs, h1, h2, h3⟩ := h
    exact ⟨a, xs, h1, e _ _ h2, noLL_dr e (by simpa [Mini.noL] using f) h3⟩
  | .lst ds, v, f, h => by simp [Mini.noL] at f
  | .scr ns, v, f, h => by simp [Mini.noL] at f
  | .own k, v, f, h => by simp [Mini.noL] at f
  | .dic n, v, f, h => by simp [Mini.noL] at f
theorem noLL_dr {K : PySem.W.Frag} {G G' : Hp} {α α' : List Addr} (e : ∀ a xs, G a = some (.tup xs) → G' a = some (.tup xs)) : ∀ {ds : List Mini.D} {vs : List V}, Mini.noLL ds = true → DrL K G α ds vs → DrL K G' α' ds vs
  | [], [], _, h => by simp [DrL]
  | [], _ :: _, _, h => by simp [DrL] at h
  | _ :: _, [], _, h => by simp [DrL] at h
  | d :: ds, v :: vs, f, h => by
    rw [DrL] at h ⊢
    have f' : Mini.noL d = true ∧ Mini.noLL ds = true := by simpa [Mini.noLL] using f
    exact ⟨noL_dr e f'.1 h.1, noLL_dr e f'.2 h.2⟩
end
theorem StR.no_tup {K : PySem.W.Frag} {P α : List Addr} {s : Mini.Sto} {H : Hp} (hs : StR K P α s H) {a : Addr} {xs : List V} (h : H a = some (.tup xs)) : a ∉ α := fun ha => by
  obtain ⟨k, hk, rfl⟩ := List.getElem_of_mem ha
  have hk2 : k < s.length := by rw [hs.len]; exact hk
  have := hs.ob k s[k] α[k] (List.getElem?_eq_getElem hk2) (List.getElem?_eq_getElem hk)
  rw [h] at this
  cases ho : s[k] with
  | L ds => rw [ho, ObR] at this; obtain ⟨ys, h1, _⟩ := this; cases h1
  | DI ks => rw [ho, ObR] at this; cases this
  | DT ks => rw [ho, ObR] at this; cases this
theorem pm_fz {m : Mini.M} (h : PE X e (tM X.K E m)) : PE X e (tM X.K E (Mini.mFz m)) := h.to fun σ H Q ⟨P, α, e, s, hS, q⟩ => by
  refine ⟨P, [], e.map fun o => o.bind (Mini.fzD s), [], ⟨⟨by simp, by simp, hS.st.pt, rfl, by simp⟩, by simp [hS.env.1], fun i d he => ?_⟩, ?_⟩
  · rw [List.getElem?_map] at he
    obtain ⟨o, ho, he⟩ := Option.map_eq_some_iff.mp he
    obtain ⟨d0, hd0, he⟩ := Option.bind_eq_some_iff.mp he
    subst hd0
    obtain ⟨v, hv, hd⟩ := hS.env.2 i d0 ho
    exact ⟨v, hv, fz_dr hS.st hd he⟩
  · unfold Mini.mFz at q
    cases hm : m (e.map fun o => o.bind (Mini.fzD s)) [] with
    | bad => rw [hm] at q; exact q.elim
    | exc c =>
      rw [hm] at q
      exact fun oe α' H' g => q oe α H' (hS.st.ext g.all).1
    | ok pr =>
      rw [hm] at q
      intro α' H' g t v hv
      obtain ⟨g2, t2⟩ := hS.st.ext g.all
      obtain ⟨hf, q⟩ := Post.unite (c := Mini.noL pr.1 = true) q
      exact q α H' g2 t2 v (noL_dr (fun a xs h => by
        rw [imm_some] at h ⊢
        exact ⟨h.1, t2.no_tup h.2.2, h.2.2⟩) hf hv)
end
end Snd
end
section
namespace Snd
open PySem L2
/-! ### what is walked -/
def WalkD (K : PySem.W.Frag) (J : It) (ds : List Mini.D) (G : Hp) (α : List Addr) : Prop := Walk J ds.length (fun H2 => Ext G H2) (fun i H2 x H3 => H3 = H2 ∧ ∃ d, ds[i]? = some d ∧ Dr K G α d x)
def tI (K : PySem.W.Frag) (E : XC) (m : Mini.A) : TI := fun σ H R => ∃ P α e s, SR K P α e s σ H ∧ Post K E P α H (m e s) fun ds s' α' H' => ∀ J, WalkD K J ds (imm H' P α') α' → R J H'
section
variable {K : PySem.W.Frag} {G : Hp} {α : List Addr}
theorem wd_list {a : Addr} {ds : List Mini.D} {xs : List V} (h : G a = some (.lst xs)) (r : DrL K G α ds xs) : WalkD K (Itl K a) ds G α := by
  unfold WalkD
  rw [r.len]
  refine (walk_list (K := K) (a := a) (xs := xs)).mono (fun H q => .of (q _ _ h)) fun i H x H' hi _ y => ⟨y.1, ?_⟩
  have hl : i < ds.length := by rw [r.len]; exact hi
  exact ⟨ds[i], List.getElem?_eq_getElem hl, (drL_iff.mp r).2 i _ x (List.getElem?_eq_getElem hl) y.2⟩
theorem wd_tup {a : Addr} {ds : List Mini.D} {xs : List V} (h : G a = some (.tup xs)) (r : DrL K G α ds xs) : WalkD K (Itt K a) ds G α := by
  unfold WalkD
  rw [r.len]
  refine (walk_tup (K := K) (a := a) (xs := xs)).mono (fun H q => .of (q _ _ h)) fun i H x H' hi _ y => ⟨y.1, ?_⟩
  have hl : i < ds.length := by rw [r.len]; exact hi
  exact ⟨ds[i], List.getElem?_eq_getElem hl, (drL_iff.mp r).2 i _ x (List.getElem?_eq_getElem hl) y.2⟩
theorem wd_rev {a : Addr} {ds : List Mini.D} {xs : List V} (h : G a = some (.lst xs)) (r : DrL K G α ds xs) : WalkD K (Itv K a xs.length) ds.reverse G α := by
  unfold WalkD
  rw [List.length_reverse, r.len]
  refine (walk_rev (K := K) (a := a) (xs := xs)).mono (fun H q => .of (q _ _ h)) fun i H x H' hi _ y => ⟨y.1, ?_⟩
  have hl : ds.length - 1 - i < ds.length := by rw [r.len]; omega
  refine ⟨ds[ds.length - 1 - i], by rw [List.getElem?_reverse (by rw [r.len]; exact hi), List.getElem?_eq_getElem hl], (drL_iff.mp r).2 (ds.length - 1 - i) _ x (List.getElem?_eq_getElem hl) (by rw [r.len]; exact y.2)⟩
theorem walk_revT {a : Addr} {xs : List V} : Walk (RT.ItvT K a xs.length) xs.length (fun H => SqT K H a xs) (fun i H x H' => H' = H ∧ xs[xs.length - 1 - i]? = some x) :=
  ⟨fun i _ hi q => ⟨hi, xs, xs[xs.length - 1 - i]'(by omega), q, by simp [show xs.length - 1 - i < xs.length by omega]⟩, fun _ _ => Nat.le_refl _, fun _ _ _ _ _ q y => ⟨y.1, y.2 xs q⟩⟩
theorem wd_revT {a : Addr} {ds : List Mini.D} {xs : List V} (h : G a = some (.tup xs)) (r : DrL K G α ds xs) : WalkD K (RT.ItvT K a xs.length) ds.reverse G α := by
  unfold WalkD
  rw [List.length_reverse, r.len]
  refine (walk_revT (K := K) (a := a) (xs := xs)).mono (fun H q => .of (q _ _ h)) fun i H x H' hi _ y => ⟨y.1, ?_⟩
  have hl : ds.length - 1 - i < ds.length := by rw [r.len]; omega
  refine ⟨ds[ds.length - 1 - i], by rw [List.getElem?_reverse (by rw [r.len]; exact hi), List.getElem?_eq_getElem hl], (drL_iff.mp r).2 (ds.length - 1 - i) _ x (List.getElem?_eq_getElem hl) (by rw [r.len]; exact y.2)⟩
theorem wd_str {z : List Nat} : WalkD K (Its ⟨z.toArray⟩) (Mini.sgn z) G α := by
  unfold WalkD Mini.sgn
  rw [List.length_map]
  refine (walk_str (z := ⟨z.toArray⟩)).mono (fun H q => trivial) fun i H x H' hi _ y => ⟨y.1, ?_⟩
  obtain ⟨c, hc, rfl⟩ := y.2
  refine ⟨.str [c], ?_, by simp [Dr]⟩
  rw [List.getElem?_map]
  have : z[i]? = some c := by simpa using hc
  rw [this]; rfl
theorem wd_rng {lo : Int} {n : Nat} : WalkD K (Itr lo n) (Mini.rng lo n) G α := by
  unfold WalkD Mini.rng
  rw [List.length_map, List.length_range]
  refine (walk_range (lo := lo) (n := n)).mono (fun H q => trivial) fun i H x H' hi _ y => ⟨y.1, ?_⟩
  refine ⟨.int (lo + (i : Nat)), ?_, by rw [Dr]; exact y.2⟩
  rw [List.getElem?_map, List.getElem?_range hi]
  rfl
end
section
variable {X : Cx} {E : XC} {tg : Expr} {p pos : Pos}
theorem im_seq {e : Expr} {m : Mini.M} (h : PE X e (tM X.K E m)) : PI X tg e (tI X.K E (Mini.iSeq m)) := ((pi_list h).or ((pi_tup h).or (pi_str h))).to fun σ H R ⟨P, α, e, s, hS, q⟩ => by
  unfold Mini.iSeq at q
  cases hm : m e s with
  | bad => rw [hm] at q; exact q.elim
  | exc c => rw [hm] at q; exact .inl ⟨P, α, e, s, hS, by rw [hm]; exact q⟩
  | ok pr =>
    rw [hm] at q
    obtain ⟨d, s1⟩ := pr
    obtain ⟨ds, hw, q⟩ := Post.unof (f := fun ds => Mini.R.ok (ds, s1)) q
    cases d with
    | lst es =>
      cases hw
      refine .inl ⟨P, α, e, s, hS, by
        rw [hm]
        intro α1 H1 g t v hv
        rw [Dr] at hv
        obtain ⟨a, xs, rfl, h1, h2⟩ := hv
        exact ⟨a, rfl, ⟨xs, .of (imm_sub _ _ _ _ _ h1)⟩, q α1 H1 g t _ (wd_list h1 h2.nil_any)⟩⟩
    | tup es =>
      cases hw
      refine .inr (.inl ⟨P, α, e, s, hS, by
        rw [hm]
        intro α1 H1 g t v hv
        rw [Dr] at hv
        obtain ⟨a, xs, rfl, h1, h2⟩ := hv
        exact ⟨a, rfl, ⟨xs, .of (imm_sub _ _ _ _ _ h1)⟩, q α1 H1 g t _ (wd_tup h1 h2)⟩⟩)
    | str z =>
      cases hw
      refine .inr (.inr ⟨P, α, e, s, hS, by
        rw [hm]
        intro α1 H1 g t v hv
        rw [Dr] at hv
        subst hv
        exact ⟨_, rfl, q α1 H1 g t _ wd_str⟩⟩)
    | _ => cases hw
theorem im_rev {e : Expr} {m : Mini.M} (hg : Gl X "reversed") (hmg : X.mg "reversed" = none) (h : PE X e (tM X.K E m)) (hs : starEach [e] X.env = (false, eval e X.env) :: starEach [] X.env := by rfl) : PI X tg (.Call (.Name "reversed" p) [e] [] pos) (tI X.K E (Mini.iRev m)) := (RT.pi_revA hg hmg h hs).to fun σ H R ⟨P, α, e, s, hS, q⟩ => by
  unfold Mini.iRev at q
  refine ⟨P, α, e, s, hS, ?_⟩
  cases hm : m e s with
  | bad => rw [hm] at q; exact q.elim
  | exc c => rw [hm] at q; exact q
  | ok pr =>
    rw [hm] at q
    obtain ⟨d, s1⟩ := pr
    obtain ⟨ds, hw, q⟩ := Post.unof (f := fun ds => Mini.R.ok (ds, s1)) q
    intro α1 H1 g t v hv
    cases d with
    | lst es =>
      cases hw
      rw [Dr] at hv
      obtain ⟨a, xs, rfl, h1, h2⟩ := hv
      exact ⟨a, xs, rfl, .inl ⟨.of (imm_sub _ _ _ _ _ h1), q α1 H1 g t _ (wd_rev h1 h2.nil_any)⟩⟩
    | tup es =>
      cases hw
      rw [Dr] at hv
      obtain ⟨a, xs, rfl, h1, h2⟩ := hv
      exact ⟨a, xs, rfl, .inr ⟨.of (imm_sub _ _ _ _ _ h1), q α1 H1 g t _ (wd_revT h1 h2)⟩⟩
    | _ => cases hw
theorem im_r1 {e : Expr} {m : Mini.M} (hg : Gl X "range") (hmg : X.mg "range" = none) (h : PE X e (tM X.K E m)) (hs : starEach [e] X.env = [(false, eval e X.env)] := by rfl) : PI X tg (.Call (.Name "range" p) [e] [] pos) (tI X.K E (Mini.iR1 m)) := (pi_range1 hg hmg (pa_cons h pa_nil hs) hs).to fun σ H R ⟨P, α, e, s, hS, q⟩ =>
  ⟨P, α, e, s, hS, (Post.unbind q).imp fun d s1 α1 H1 g1 t1 q1 v hv => by
    cases d <;> simp only at q1 <;> first | exact q1.elim | skip
    rw [Dr] at hv
    subst hv
    obtain ⟨⟨c1, c2⟩, q1⟩ := q1.unite
    exact ⟨_, rfl, c1, c2, q1.here t1 _ wd_rng⟩⟩
theorem im_r2 {e e' : Expr} {m m' : Mini.M} (hg : Gl X "range") (hmg : X.mg "range" = none) (h : PE X e (tM X.K E m)) (h' : PE X e' (tM X.K E m')) (hs : starEach [e, e'] X.env = [(false, eval e X.env), (false, eval e' X.env)] := by rfl) (hs2 : starEach [e'] X.env = [(false, eval e' X.env)] := by rfl) :
    PI X tg (.Call (.Name "range" p) [e, e'] [] pos) (tI X.K E (Mini.iR2 m m')) := (pi_range2 hg hmg (pa_cons h (pa_cons h' pa_nil hs2) (by rw [hs, hs2])) hs hs2).to fun σ H R ⟨P, α, e, s, hS, q⟩ =>
  ⟨P, α, e, s, hS, (Post.unbind q).imp fun d s1 α1 H1 g1 t1 q1 v hv => ⟨P, α1, e, s1, hS.gr g1 t1, (Post.unbind q1).imp fun d2 s2 α2 H2 g2 t2 q2 u hu => by
    dsimp only at q2
    cases d <;> cases d2 <;> simp only at q2 <;> first | exact q2.elim | skip
    rw [Dr] at hv hu
    subst hv; subst hu
    obtain ⟨⟨c1, c2, c3, c4⟩, q2⟩ := q2.unite
    exact ⟨_, _, rfl, ⟨c1, c2, c3, c4⟩, q2.here t2 _ wd_rng⟩⟩⟩
end

/-! ### a comprehension -/
theorem nox_bad {β γ : Type} {r : Mini.R β} {f : β → Mini.R γ} {x : γ} (h : r.nox.bind f = .ok x) : ∃ p, r = .ok p ∧ f p = .ok x := by
  cases r with
  | ok p => exact ⟨p, rfl, h⟩
  | exc c => cases h
  | bad => cases h
theorem bind_ok {β γ : Type} {r : Mini.R β} {f : β → Mini.R γ} {x : γ} (h : r.bind f = .ok x) : ∃ p, r = .ok p ∧ f p = .ok x := by
  cases r with
  | ok p => exact ⟨p, rfl, h⟩
  | exc c => cases h
  | bad => cases h
theorem lcF_exc {i : Nat} {t : Mini.T} {m : Mini.M} {e : Mini.Env} : ∀ {ds : List Mini.D} {s : Mini.Sto} {c : Nat}, Mini.lcF i t m e ds s ≠ .exc c
  | [], s, c => by simp [Mini.lcF]
  | d :: ds, s, c => by
    unfold Mini.lcF
    cases t (e.set i (some d)) s with
    | bad => simp [Mini.R.nox]
    | exc c => simp [Mini.R.nox]
    | ok p =>
      simp only [Mini.R.nox_ok, Mini.R.bind_ok]
      split
      · cases m (e.set i (some d)) p.2 with
        | bad => simp [Mini.R.nox]
        | exc c => simp [Mini.R.nox]
        | ok q =>
          simp only [Mini.R.nox_ok, Mini.R.bind_ok]
          split
          · cases h : Mini.lcF i t m e ds q.2 with
            | bad => simp
            | exc c => exact absurd h lcF_exc
            | ok r => simp
          · simp
      · exact lcF_exc
section
variable {K : PySem.W.Frag} {P α α' : List Addr} {s : Mini.Sto} {H H' : Hp}
theorem Post.ok_of {E : XC} {β : Type} {r : Mini.R (β × Mini.Sto)} {x : β × Mini.Sto} {k : β → Mini.Sto → List Addr → Hp → Prop} (h : r = .ok x) (f : ∀ α1 H1, Gr P α H α1 H1 → StR K P α1 x.2 H1 → k x.1 x.2 α1 H1) : Post K E P α H r k := by
  subst h; exact f
end
section
variable {X : Cx} {E : XC} {pos : Pos}
/-- one more protected address -/
theorem StR.prot {K : PySem.W.Frag} {P α : List Addr} {s : Mini.Sto} {H : Hp} (h : StR K P α s H) {D : Addr} {o : HO} (hD : H D = none) : StR K (D :: P) α s (upd H D o) := by
  have n1 : D ∉ P := fun z => h.pt D z hD
  have n2 : D ∉ α := fun z => h.there z hD
  have x : Ext (imm H P α) (imm (upd H D o) (D :: P) α) := fun b u q => by
    rw [imm_some] at q ⊢
    have : b ≠ D := ne_of_none q.2.2 hD
    exact ⟨by simp [this, q.1], q.2.1, by rw [upd_ne this]; exact q.2.2⟩
  refine ⟨h.nd, fun a ha => ?_, fun b hb => ?_, h.len, fun k u a h1 h2 => ?_⟩
  · have : a ≠ D := fun z => n2 (z ▸ ha)
    simp [this, h.dis a ha]
  · by_cases hb2 : b = D
    · subst hb2; rw [upd_same]; simp
    · rw [upd_ne hb2]
      rcases List.mem_cons.mp hb with z | z
      · exact absurd z hb2
      · exact h.pt b z
  · have ha : a ∈ α := List.mem_of_getElem? h2
    rw [upd_ne (show a ≠ D from fun z => n2 (z ▸ ha))]
    exact (h.ob k u a h1 h2).mono x
/-- the protected list grows by the machine's own hand -/
theorem StR.grow {K : PySem.W.Frag} {P α : List Addr} {s : Mini.Sto} {H : Hp} {D : Addr} (h : StR K (D :: P) α s H) (o : HO) : imm (upd H D o) (D :: P) α = imm H (D :: P) α ∧ StR K (D :: P) α s (upd H D o) := by
  have ei : imm (upd H D o) (D :: P) α = imm H (D :: P) α := by
    funext b
    unfold imm
    split
    · rfl
    · rename_i q
      rw [upd_ne (show b ≠ D from fun z => q (.inl (by simp [z])))]
  refine ⟨ei, h.nd, h.dis, fun b hb => ?_, h.len, fun k u a h1 h2 => ?_⟩
  · by_cases hb2 : b = D
    · subst hb2; rw [upd_same]; simp
    · rw [upd_ne hb2]; exact h.pt b hb
  · have ha : a ∈ α := List.mem_of_getElem? h2
    have : a ≠ D := fun z => h.dis a ha (by simp [z])
    rw [upd_ne this, ei]
    exact h.ob k u a h1 h2
/-- the comprehension's state ahead of turn j -/
structure Lc (K : PySem.W.Frag) (P α1 : List Addr) (H1 : Hp) (D : Addr) (i : Nat) (t : Mini.T) (m : Mini.M) (e : Mini.Env) (ds : List Mini.D) (tot : Mini.R (List Mini.D × Mini.Sto)) (j : Nat) (α : List Addr) (s : Mini.Sto) (xs : List V) (ys : List Mini.D) (H : Hp) : Prop where
  st : StR K (D :: P) α s H
  pre : ∀ (k : Nat) a, α1[k]? = some a → α[k]? = some a
  ext : Ext (imm H1 P α1) (imm H (D :: P) α)
  keep : ∀ b ∈ P, ∀ o, H1 b = some o → H b = some o
  at' : H D = some (.lst xs)
  len : xs.length ≤ j
  dr : DrL K (imm H (D :: P) α) [] ys xs
  tot : tot = (Mini.lcF i t m e (ds.drop j) s).bind fun r => .ok (ys ++ r.1, r.2)
theorem EnvR.mono {K : PySem.W.Frag} {G G' : Hp} {α α' : List Addr} {e : Mini.Env} {σ : L2.St} (h : EnvR K G α e σ) (x : Ext G G') (p : ∀ (k : Nat) a, α[k]? = some a → α'[k]? = some a) : EnvR K G' α' e σ :=
  ⟨h.1, fun i d q => let ⟨v, h1, h2⟩ := h.2 i d q; ⟨v, h1, h2.mono x p⟩⟩
theorem StR.unprot {K : PySem.W.Frag} {P α : List Addr} {s : Mini.Sto} {H : Hp} {D : Addr} (h : StR K (D :: P) α s H) : Ext (imm H (D :: P) α) (imm H P α) ∧ StR K P α s H := by
  have x : Ext (imm H (D :: P) α) (imm H P α) := fun b o q => by
    rw [imm_some] at q ⊢
    exact ⟨fun z => q.1 (List.mem_cons_of_mem _ z), q.2⟩
  exact ⟨x, h.nd, fun a ha z => h.dis a ha (List.mem_cons_of_mem _ z), fun b hb => h.pt b (List.mem_cons_of_mem _ hb), h.len, fun k u a h1 h2 => (h.ob k u a h1 h2).mono x⟩
theorem bind_id {β γ : Type} (r : Mini.R (List β × γ)) : (r.bind fun r => .ok ([] ++ r.1, r.2)) = r := by cases r <;> rfl
theorem bind_app {β γ : Type} (r : Mini.R (List β × γ)) (ys : List β) (y : β) : ((r.bind fun r => .ok (y :: r.1, r.2)).bind fun r => .ok (ys ++ r.1, r.2)) = r.bind fun r => .ok ((ys ++ [y]) ++ r.1, r.2) := by cases r <;> simp
theorem lc_to {i : Nat} {mi : Mini.A} {t : Mini.T} {m : Mini.M} : ∀ σ H Q, tM X.K E (Mini.mLc i mi t m) σ H Q → tLc (tI X.K E mi) (gName i) (tT X.K E00 t) (tM X.K E00 m) [i] σ H Q := by
  rintro σ H Q ⟨P, α, e, s, hS, q⟩
  refine ⟨P, α, e, s, hS, (Post.unbind q).imp fun ds s1 α1 H1 g1 t1 q1 J hJ D hD => ?_⟩
  obtain ⟨hl, q1⟩ := q1.unite
  dsimp only at hl q1
  have nP : D ∉ P := fun z => t1.pt D z hD
  refine lc_it hJ (fun j Hj => ∃ αj sj xs ys, Lc X.K P α1 H1 D i t m e ds (Mini.lcF i t m e ds s1) j αj sj xs ys Hj) ?_ ?_ ?_ ?_
  · refine ⟨α1, s1, [], [], t1.prot hD, fun _ _ q => q, fun b o q => ?_, fun b hb o q => by rw [upd_ne (ne_of_none q hD)]; exact q, upd_same, Nat.le_refl _, by simp [DrL], by rw [List.drop_zero, bind_id]⟩
    rw [imm_some] at q ⊢
    have : b ≠ D := ne_of_none q.2.2 hD
    exact ⟨by simp [this, q.1], q.2.1, by rw [upd_ne this]; exact q.2.2⟩
  · rintro j Hj _ ⟨αj, sj, xs, ys, L⟩
    exact L.ext.trans (imm_sub _ _ _)
  · rintro j v Hj Hj' hj ⟨αj, sj, xs, ys, L⟩ ⟨rfl, d, hd, hdv⟩
    have hw : (wipe σ [i]).set i (some v) = σ.set i (some v) := by simp [wipe, List.set_set]
    show wipe ((wipe σ [i]).set i (some v)) [i] = wipe σ [i] ∧ _
    refine ⟨by simp [wipe, List.set_set], ?_⟩
    rw [hw]
    have hdrop : ds.drop j = d :: ds.drop (j + 1) := by
      obtain ⟨h1, h2⟩ := List.getElem?_eq_some_iff.mp hd
      rw [← h2]
      exact List.drop_eq_getElem_cons h1
    have ht := L.tot
    rw [hdrop, Mini.lcF] at ht
    cases htot : Mini.lcF i t m e ds s1 with
    | bad => rw [htot] at q1; exact q1.elim
    | exc c => exact absurd htot lcF_exc
    | ok r =>
      rw [htot] at ht
      obtain ⟨r0, hr0, hr1⟩ := bind_ok ht.symm
      obtain ⟨p, hp, hr0⟩ := nox_bad hr0
      have env1 : EnvR X.K (imm Hj' (D :: P) αj) αj (e.set i (some d)) (σ.set i (some v)) := ((hS.env.gr g1).mono L.ext L.pre).set (hdv.mono L.ext L.pre)
      refine ⟨D :: P, αj, e.set i (some d), sj, ⟨L.st, env1⟩, Post.ok_of hp fun α2 H2 g2 t2 => ?_⟩
      have D2 : H2 D = some (.lst xs) := g2.keep D List.mem_cons_self _ L.at'
      split at hr0
      · rename_i hb
        dsimp only
        rw [if_pos hb]
        obtain ⟨y, hy, hr0⟩ := nox_bad hr0
        split at hr0
        · rename_i hck
          refine ⟨D :: P, α2, e.set i (some d), p.2, ⟨t2, env1.gr g2⟩, Post.ok_of hy fun α3 H3 g3 t3 u hu => ?_⟩
          have D3 : H3 D = some (.lst xs) := g3.keep D List.mem_cons_self _ D2
          obtain ⟨e1, t4⟩ := t3.grow (.lst (xs ++ [u]))
          have hl' : ds.length ≤ 16777216 := hl
          refine ⟨xs, D3, slt (by have := L.len; omega), α3, y.2, xs ++ [u], ys ++ [y.1], t4, fun k a z => g3.pre k a (g2.pre k a (L.pre k a z)), ?_, fun b hb' o z => ?_, upd_same, by simp; exact L.len, ?_, ?_⟩
          · rw [e1]; exact L.ext.trans (g2.ext.trans g3.ext)
          · rw [upd_ne (show b ≠ D from fun w => nP (w ▸ hb'))]
            exact g3.keep b (List.mem_cons_of_mem _ hb') o (g2.keep b (List.mem_cons_of_mem _ hb') o (L.keep b hb' o z))
          · rw [e1]
            refine (DrL.mono (g2.ext.trans g3.ext) (fun _ _ q => q) L.dr).append ?_
            have := t3.chk (ds := [y.1]) (xs := [u]) hck (by simp only [DrL]; exact ⟨hu, trivial⟩)
            exact this
          · rw [ht, hp]
            simp only [Mini.R.nox_ok, Mini.R.bind_ok, hb, if_true, hy, hck]
            exact bind_app _ _ _
        · cases hr0
      · rename_i hb
        dsimp only
        rw [if_neg hb]
        refine ⟨α2, p.2, xs, ys, t2, fun k a z => g2.pre k a (L.pre k a z), L.ext.trans g2.ext, fun b hb' o z => g2.keep b (List.mem_cons_of_mem _ hb') o (L.keep b hb' o z), D2, by have := L.len; omega, DrL.mono g2.ext (fun _ _ q => q) L.dr, ?_⟩
        rw [ht, hp]
        simp only [Mini.R.nox_ok, Mini.R.bind_ok, hb, if_false]
        rfl
  · rintro Hn ⟨αn, sn, xs, ys, L⟩
    have ht := L.tot
    rw [List.drop_length, Mini.lcF] at ht
    simp only [Mini.R.bind_ok, List.append_nil] at ht
    rw [ht] at q1
    obtain ⟨x1, t5⟩ := L.st.unprot
    refine q1 αn Hn ⟨L.pre, L.ext.trans x1, L.keep⟩ t5 _ ?_
    rw [Dr]
    exact ⟨D, xs, rfl, imm_some.mpr ⟨nP, fun z => L.st.dis D z List.mem_cons_self, L.at'⟩, DrL.mono x1 (fun _ _ q => q) L.dr⟩
theorem pm_lc {elt tg iter : Expr} {ifs : List Expr} {scope : Scope} {x : Str} {i : Nat} {mi : Mini.A} {t : Mini.T} {m : Mini.M} (hc : X.calm = true) (hN : X.N.Nodup) (hi : PI X tg iter (tI X.K E mi)) (ok : BlkOk X.N X.env.scope scope [(x, i)])
    (hg : ∀ (s : Shared) (H : Hp) (C : Addr) (cl : List (Str × Addr)) (fp : List Addr), PG (X.blk s H scope (compEnvC scope cl C X.env) fp) tg (gName i)) (ht : ∀ (s : Shared) (H : Hp) (C : Addr) (cl : List (Str × Addr)) (fp : List Addr), PTs (X.blk s H scope (compEnvC scope cl C X.env) fp) ifs (tT X.K E00 t))
    (he : ∀ (s : Shared) (H : Hp) (C : Addr) (cl : List (Str × Addr)) (fp : List Addr), PE (X.blk s H scope (compEnvC scope cl C X.env) fp) elt (tM X.K E00 m)) (hs : ∀ x, foldedSetIterable iter X.env x = pure x := by intro _; rfl) :
    PE X (.ListComp elt [⟨tg, iter, ifs, 0⟩] scope pos) (tM X.K E (Mini.mLc i mi t m)) := (pe_lc hc hN hi ok hg ht he hs).to lc_to
theorem sm_setLc {elt tg iter : Expr} {ifs : List Expr} {scope : Scope} {x y : Str} {i j : Nat} {mi : Mini.A} {t : Mini.T} {m : Mini.M} {py spos : Pos} (hy : X.N[j]? = some y) (hyl : X.env.scope.names.lookup y = some .local)
    (hsw : swapsWith (.ListComp elt [⟨tg, iter, ifs, 0⟩] scope pos) (some (.Name y py)) spos.line X.env = pure true)
    (hc : X.calm = true) (hN : X.N.Nodup) (hi : PI X tg iter (tI X.K E mi)) (ok : BlkOk X.N X.env.scope scope [(x, i)])
    (hg : ∀ (s : Shared) (H : Hp) (C : Addr) (cl : List (Str × Addr)) (fp : List Addr), PG (X.blk s H scope (compEnvC scope cl C X.env) fp) tg (gName i)) (ht : ∀ (s : Shared) (H : Hp) (C : Addr) (cl : List (Str × Addr)) (fp : List Addr), PTs (X.blk s H scope (compEnvC scope cl C X.env) fp) ifs (tT X.K E00 t))
    (he : ∀ (s : Shared) (H : Hp) (C : Addr) (cl : List (Str × Addr)) (fp : List Addr), PE (X.blk s H scope (compEnvC scope cl C X.env) fp) elt (tM X.K E00 m)) (hs : ∀ x, foldedSetIterable iter X.env x = pure x := by intro _; rfl) :
    PS X (.Assign [.Name y py] (.ListComp elt [⟨tg, iter, ifs, 0⟩] scope pos) spos) (tS X.K E (Mini.sSet j (Mini.mLc i mi t m))) :=
  (ps_setLc hc hN hy hyl hsw hi ok hg ht he hs).to fun D σ H ⟨P, α, e, s, hS, q⟩ => lc_to (X := X) (E := E) σ H _ ⟨P, α, e, s, hS, (Post.unbind q).imp fun d s1 α1 H1 g1 t1 q1 v hv => by
    show D.nx (σ.set j (some v)) H1
    exact q1.here t1 _ ((hS.gr g1 t1).set hv)⟩
theorem sts_nil : PTs X [] (tT X.K E Mini.tYes) := ⟨fun pins s σ H Q I ⟨P, α, e, s', hS, q⟩ => pts_nil.run pins s σ H Q I (q.here hS.st)⟩
theorem sts_one {c : Expr} {t : Mini.T} (h : PT X c (tT X.K E t)) : PTs X [c] (tT X.K E t) := pts_one h

/-! ### statements -/
variable {st : Stmt} {rest : List Stmt} {e : Expr}
theorem ss_nil : PSs X [] (tS X.K E Mini.sNil) := pss_nil.to fun D σ H ⟨P, α, e, s, hS, q⟩ => q.here hS.st σ hS
theorem ss_cons {m1 m2 : Mini.S} (h1 : PS X st (tS X.K E m1)) (h2 : PSs X rest (tS X.K E m2)) : PSs X (st :: rest) (tS X.K E (Mini.sCons m1 m2)) := (pss_cons h1 h2).to fun D σ H ⟨P, α, e, s, hS, q⟩ =>
  ⟨P, α, e, s, hS, (Post.unbind q).imp fun o s1 α1 H1 g1 t1 q1 => by
    cases o with
    | nx e' => exact fun σ' hS' => ⟨P, α1, e', s1, hS', q1⟩
    | rt d => exact q1.here t1
    | bk e' => exact q1.here t1
    | ct e' => exact q1.here t1⟩
theorem ss_one {m1 : Mini.S} (h1 : PS X st (tS X.K E m1)) : PSs X [st] (tS X.K E m1) := pss_one h1
theorem sm_pass : PS X (.Pass pos) (tS X.K E Mini.sPs) := ps_pass.to fun D σ H ⟨P, α, e, s, hS, q⟩ => q.here hS.st σ hS
theorem sm_ct : PS X (.Continue pos) (tS X.K E Mini.sCt) := ps_continue.to fun D σ H ⟨P, α, e, s, hS, q⟩ => q.here hS.st σ hS
theorem sm_bk : PS X (.Break pos) (tS X.K E Mini.sBk) := ps_break.to fun D σ H ⟨P, α, e, s, hS, q⟩ => q.here hS.st σ hS
theorem sm_bad : PS X st (tS X.K E Mini.sBad) := ps_never.to fun D σ H ⟨P, α, e, s, hS, q⟩ => q
theorem sm_doc {z : Str} {j : Nat} {p2 : Pos} : PS X (.Expr (.Constant (.str z) j pos) p2) (tS X.K E Mini.sPs) := ps_doc.to fun D σ H ⟨P, α, e, s, hS, q⟩ => q.here hS.st σ hS
theorem sm_ex {m : Mini.M} (h : PE X e (tM X.K E m)) (hs : swapsWith e none pos.line X.env = pure false := by rfl) : PS X (.Expr e pos) (tS X.K E (Mini.sEx m)) := (ps_expr h hs).to fun D σ H ⟨P, α, e, s, hS, q⟩ =>
  ⟨P, α, e, s, hS, (Post.unbind q).imp fun d s1 α1 H1 g1 t1 q1 v hv => q1.here t1 σ (hS.gr g1 t1)⟩
theorem sm_ret {m : Mini.M} (h : PE X e (tM X.K E m)) : PS X (.Return (some e) pos) (tS X.K E (Mini.sRet m)) := (ps_ret h).to fun D σ H ⟨P, α, e, s, hS, q⟩ =>
  ⟨P, α, e, s, hS, (Post.unbind q).imp fun d s1 α1 H1 g1 t1 q1 v hv => q1.here t1 v hv⟩
theorem sm_if {c : Expr} {a b : List Stmt} {t : Mini.T} {m1 m2 : Mini.S} (hc : PT X c (tT X.K E t)) (ha : PSs X a (tS X.K E m1)) (hb : PSs X b (tS X.K E m2)) : PS X (.If c a b pos) (tS X.K E (Mini.sIf t m1 m2)) := (ps_if hc ha hb).to fun D σ H ⟨P, α, e, s, hS, q⟩ =>
  ⟨P, α, e, s, hS, (Post.unbind q).imp fun d s1 α1 H1 g1 t1 q1 => by
    dsimp only at q1 ⊢
    split
    · rename_i hk
      simp only [hk, if_true] at q1
      exact ⟨P, α1, e, s1, hS.gr g1 t1, q1⟩
    · rename_i hk
      simp only [hk, if_false] at q1
      exact ⟨P, α1, e, s1, hS.gr g1 t1, q1⟩⟩
theorem sm_set {x : Str} {i : Nat} {p : Pos} {m : Mini.M} (hN : X.N.Nodup) (hi : X.N[i]? = some x) (hx : Loc X.env.scope x) (h : PE X e (tM X.K E m)) (hf : X.fn x = true ∨ X.env.scope.names.lookup x = some .local := by first | exact .inl rfl | exact .inr rfl | assumption)
    (hs : swapsWithSole [.Name x p] e pos.line X.env = pure false := by rfl) (hw : swappedStores [.Name x p] e X.env = pure none := by rfl) (h1 : (assignEach [.Name x p] X.env).map (·.2) = [assign (.Name x p) X.env] := by rfl) :
    PS X (.Assign [.Name x p] e pos) (tS X.K E (Mini.sSet i m)) := (ps_asg h (pg_name hN hi hx hf) hs hw h1).to fun D σ H ⟨P, α, e, s, hS, q⟩ =>
  ⟨P, α, e, s, hS, (Post.unbind q).imp fun d s1 α1 H1 g1 t1 q1 v hv => by
    show D.nx (σ.set i (some v)) H1
    exact q1.here t1 _ ((hS.gr g1 t1).set hv)⟩
/-- x = [a, b, ..], ours alone from here on -/
theorem sm_ownL {x : Str} {i : Nat} {p p2 : Pos} {es : List Expr} {ma : Mini.A} (hN : X.N.Nodup) (hi : X.N[i]? = some x) (hx : Loc X.env.scope x) (h : PA X es (tA X.K E ma)) (hf : X.fn x = true ∨ X.env.scope.names.lookup x = some .local := by first | exact .inl rfl | exact .inr rfl | assumption)
    (hs : swapsWithSole [.Name x p] (.List es p2) pos.line X.env = pure false := by rfl) (hw : swappedStores [.Name x p] (.List es p2) X.env = pure none := by rfl) (h1 : (assignEach [.Name x p] X.env).map (·.2) = [assign (.Name x p) X.env] := by rfl) :
    PS X (.Assign [.Name x p] (.List es p2) pos) (tS X.K E (Mini.sOwnL i ma)) := (ps_asg (pe_lst h) (pg_name hN hi hx hf) hs hw h1).to fun D σ H ⟨P, α, e, s, hS, q⟩ =>
  ⟨P, α, e, s, hS, (Post.unbind q).imp fun ds s1 α1 H1 g1 t1 q1 vs hvs => by
    obtain ⟨⟨hl, hfr⟩, q1⟩ := q1.unite
    refine ⟨l100 (by rw [← hvs.len]; exact hl), fun p hp => ?_⟩
    obtain ⟨g2, t2, el⟩ := t1.newOwn (o := .L ds) (ho := .lst vs) hp ⟨vs, rfl, DrL.free hfr hvs⟩
    show D.nx (σ.set i (some (.ref p))) _
    exact q1 _ _ g2 t2 _ (((hS.gr g1 t1).gr g2 t2).set (by rw [Dr]; exact ⟨p, el, rfl⟩))⟩
/-! ### o[i] = v -/
def rSetD : V → V → V → Hp → (Hp → Prop) → Prop := fun o i v H Q => ∃ a H4, o = .ref a ∧ DPut H a i v H4 ∧ Q H4
theorem set_dict (hu : X.A.units + 64 < cLine) : PSet X rSetD := by
  intro pins s σ H o i v ov iv u Q I ro ri rv h
  obtain ⟨a, H4, rfl, g, q⟩ := h
  obtain rfl : ov = Value.ref a := ro
  exact d_setItem (by omega) I g ri rv fun s4 I4 => ⟨H4, I4, q⟩
theorem set_any (hu : X.A.units + 64 < cLine) : PSet X (fun o i v H Q => rSetL o i v H Q ∨ rSetD o i v H Q) := by
  intro pins s σ H o i v ov iv u Q I ro ri rv h
  rcases h with h | h
  · exact set_list pins s σ H o i v ov iv u Q I ro ri rv h
  · exact set_dict hu pins s σ H o i v ov iv u Q I ro ri rv h
theorem putDI (ks : List Int) (j : Int) : putK (ks.map fun k => ((Sum.inl k : Key), V.bl true)) (Sum.inl j) (.bl true) = (if j ∈ ks then ks else ks ++ [j]).map fun k => ((Sum.inl k : Key), V.bl true) := by
  by_cases h : j ∈ ks
  · rw [if_pos h]
    unfold putK
    have : ((ks.map fun k => ((Sum.inl k : Key), V.bl true)).any fun kv => decide (kv.1 = Sum.inl j)) = true := by simp [List.any_eq_true, h]
    rw [if_pos this, List.map_map]
    apply List.map_congr_left
    intro k hk
    simp
  · have hn : valV (ks.map fun k => ((Sum.inl k : Key), V.bl true)) (Sum.inl j) = none := by
      have := valDI ks j
      rw [decide_eq_false h] at this
      simpa using this
    rw [if_neg h, putK_new _ hn, List.map_append]
    rfl
theorem putDT (ks : List (List Int)) (j : List Int) : putK (ks.map fun k => ((k.map Sum.inl : List Key), V.bl true)) (j.map Sum.inl) (.bl true) = (if j ∈ ks then ks else ks ++ [j]).map fun k => ((k.map Sum.inl : List Key), V.bl true) := by
  by_cases h : j ∈ ks
  · rw [if_pos h]
    unfold putK
    have : ((ks.map fun k => ((k.map Sum.inl : List Key), V.bl true)).any fun kv => decide (kv.1 = j.map Sum.inl)) = true := by
      rw [List.any_eq_true]
      exact ⟨(j.map Sum.inl, .bl true), List.mem_map.mpr ⟨j, h, rfl⟩, by simp⟩
    rw [if_pos this, List.map_map]
    apply List.map_congr_left
    intro k hk
    simp
  · have hn : valV (ks.map fun k => ((k.map Sum.inl : List Key), V.bl true)) (j.map Sum.inl) = none := by
      have := valDT ks j
      rw [decide_eq_false h] at this
      simpa using this
    rw [if_neg h, putK_new _ hn, List.map_append]
    rfl
theorem sm_put {o i : Expr} {p : Pos} {mo mi mv : Mini.M} (hu : X.A.units + 64 < cLine) (ho : PE X o (tM X.K E mo)) (hi : PE X i (tM X.K E mi)) (hv : PE X e (tM X.K E mv))
    (ha : ∀ v, assign (.Subscript o i p) X.env v = (do
      let ov ← holding [v] (eval o X.env)
      let iv ← holding [v, ov] (eval i X.env)
      standAt p
      holding [v, ov, iv] (setItem ov iv v)
      release [v, ov, iv] []) := by intro _; rfl)
    (hs : swapsWithSole [.Subscript o i p] e pos.line X.env = pure false := by rfl) (hw : swappedStores [.Subscript o i p] e X.env = pure none := by rfl) (h1 : (assignEach [.Subscript o i p] X.env).map (·.2) = [assign (.Subscript o i p) X.env] := by rfl) :
    PS X (.Assign [.Subscript o i p] e pos) (tS X.K E (Mini.sPut mo mi mv)) := (ps_asg hv (pg_sub ho hi (set_any hu) ha) hs hw h1).to fun D σ H ⟨P, α, e, s, hS, q⟩ =>
  ⟨P, α, e, s, hS, (Post.unbind q).imp fun d s1 α1 H1 g1 t1 q1 v hv => ⟨P, α1, e, s1, hS.gr g1 t1, (Post.unbind q1).imp fun d2 s2 α2 H2 g2 t2 q2 v2 hv2 => ⟨P, α2, e, s2, hS.gr (g1.trans g2) t2, (Post.unbind q2).imp fun d3 s3 α3 H3 g3 t3 q3 v3 hv3 => by
    dsimp only at q3
    cases d2 <;> simp only at q3 <;> first | exact q3.elim | skip
    rename_i k
    obtain ⟨s', hp, q3⟩ := q3.unof
    have hv' := (g2.trans g3).dr hv
    have ho' := g3.dr hv2
    have fin : ∀ H', Gr P α3 H3 α3 H' → StR X.K P α3 s' H' → D.nx σ H' := fun H' g4 t4 => q3 α3 H' g4 t4 σ ((hS.gr (g1.trans (g2.trans g3)) t3).gr g4 t4)
    cases hk : s3[k]? with
    | none => simp [Mini.putS, hk] at hp
    | some ob =>
      cases ob with
      | L ds =>
        cases d3 with
        | int j =>
          simp only [Mini.putS, hk] at hp
          obtain ⟨n, hn, hp⟩ := Option.bind_eq_some_iff.mp hp
          split at hp
          · rename_i hfr
            cases hp
            obtain ⟨b, hb, rfl, xs, hx, hd⟩ := own_ob t3 ho' hk
            rw [Dr] at hv3
            subst hv3
            have r : ObR X.K (imm H3 P α3) (.L (ds.set n d)) (some (.lst (xs.set n v))) := ⟨_, rfl, hd.set n (Dr.free hfr hv')⟩
            obtain ⟨g4, t4⟩ := t3.chg hb (List.getElem?_eq_some_iff.mp hk).1 r
            exact .inl ⟨b, xs, j, n, rfl, rfl, hx, by rw [← hd.len]; exact hn, fin _ g4 t4⟩
          · cases hp
        | _ => simp [Mini.putS, hk] at hp
      | DI ks =>
        cases d3 with
        | int j =>
          cases d with
          | bl b0 =>
            cases b0 with
            | false => simp [Mini.putS, hk] at hp
            | true =>
              simp only [Mini.putS, hk] at hp
              split at hp
              · rename_i hl
                cases hp
                obtain ⟨b, hb, rfl, hx⟩ := own_ob t3 ho' hk
                simp only [Dr] at hv3 hv'
                subst hv3; subst hv'
                rw [ObR] at hx
                obtain ⟨g4, t4⟩ := t3.chg (o := .DI (if j ∈ ks then ks else ks ++ [j])) hb (List.getElem?_eq_some_iff.mp hk).1 (by rw [ObR])
                refine .inr ⟨b, _, rfl, DPut.k (k := Sum.inl j) hx (by simp; exact slt hl), ?_⟩
                rw [putDI]
                exact fin _ g4 t4
              · cases hp
          | _ => simp [Mini.putS, hk] at hp
        | _ => simp [Mini.putS, hk] at hp
      | DT ks =>
        cases d3 with
        | tup ds =>
          cases d with
          | bl b0 =>
            cases b0 with
            | false => simp [Mini.putS, hk] at hp
            | true =>
              simp only [Mini.putS, hk] at hp
              obtain ⟨js, hj, hp⟩ := Option.bind_eq_some_iff.mp hp
              split at hp
              · rename_i hl
                cases hp
                obtain ⟨b, hb, rfl, hx⟩ := own_ob t3 ho' hk
                simp only [Dr] at hv3 hv'
                obtain ⟨a, xs, rfl, h3, h4⟩ := hv3
                subst hv'
                rw [ObR] at hx
                have hxs := h4.zints hj
                subst hxs
                obtain ⟨g4, t4⟩ := t3.chg (o := .DT (if js ∈ ks then ks else ks ++ [js])) hb (List.getElem?_eq_some_iff.mp hk).1 (by rw [ObR])
                refine .inr ⟨b, _, rfl, DPut.t (k := js.map Sum.inl) hx (by rw [kV_ints]; exact imm_sub _ _ _ _ _ h3) (by simp; exact slt hl), ?_⟩
                rw [putDT]
                exact fin _ g4 t4
              · cases hp
          | _ => simp [Mini.putS, hk] at hp
        | _ => simp [Mini.putS, hk] at hp⟩⟩⟩
/-! ### loops -/
theorem sm_for {tg iter : Expr} {body : List Stmt} {i : Nat} {mi : Mini.A} {m : Mini.S} (hp : PassesOwn (model X.prog X.w) X.A X.env X.xe) (hc : X.calm = true) (hi : PI X tg iter (tI X.K E mi)) (hg : PG X tg (gName i)) (hb : PSs X body (tS X.K E m))
    (hs : ∀ x, foldedSetIterable iter X.env x = pure x := by intro _; rfl) : PS X (.For tg iter body [] pos) (tS X.K E (Mini.sFor i mi m)) := (ps_for hp hc hi hg hb hs).to fun D σ H ⟨P, α, e, s, hS, q⟩ =>
  ⟨P, α, e, s, hS, (Post.unbind q).imp fun ds s1 α1 H1 g1 t1 q1 J hJ => by
    dsimp only at q1
    refine for_it hJ (fun j σ H => ∃ α' e' s', SR X.K P α' e' s' σ H ∧ Gr P α1 H1 α' H ∧ Post X.K E P α' H (Mini.forF i m (ds.drop j) e' s') (endK X.K P D)) ?_ ?_ ?_ ?_
    · exact ⟨α1, e, s1, hS.gr g1 t1, Gr.refl _ _ _, by rw [List.drop_zero]; exact q1⟩
    · rintro j σ' H' _ ⟨α', e', s', _, g, _⟩
      exact g.ext.trans (imm_sub _ _ _)
    · rintro j v σ' H' H'' hj ⟨α', e', s', hS', g, q'⟩ ⟨rfl, d, hd, hdv⟩
      have hdrop : ds.drop j = d :: ds.drop (j + 1) := by
        obtain ⟨h1, h2⟩ := List.getElem?_eq_some_iff.mp hd
        rw [← h2]
        exact List.drop_eq_getElem_cons h1
      rw [hdrop, Mini.forF] at q'
      show tS X.K E m _ (σ'.set i (some v)) H''
      refine ⟨P, α', e'.set i (some d), s', hS'.set (g.dr hdv), (Post.unbind q').imp fun o s2 α2 H2 g2 t2 q2 => ?_⟩
      cases o with
      | nx e2 => exact fun σ2 hS2 => ⟨α2, e2, s2, hS2, g.trans g2, q2⟩
      | ct e2 => exact fun σ2 hS2 => ⟨α2, e2, s2, hS2, g.trans g2, q2⟩
      | bk e2 => exact q2.here t2
      | rt d2 => exact q2.here t2
    · rintro σ' H' ⟨α', e', s', hS', g, q'⟩
      rw [List.drop_length, Mini.forF] at q'
      exact q'.here hS'.st σ' hS'⟩
theorem sm_while {c : Expr} {body : List Stmt} {t : Mini.T} {m : Mini.S} (hp : PassesOwn (model X.prog X.w) X.A X.env X.xe) (hc : PT X c (tT X.K E t)) (hb : PSs X body (tS X.K E m)) : PS X (.While c body [] pos) (tS X.K E (Mini.sWhile t m)) := (ps_while hp hc hb).to fun D σ H ⟨P, α, e, s, hS, q⟩ => by
  have hw : ∃ n r, Mini.whF t m n e s = some r ∧ Post X.K E P α H r (endK X.K P D) := by
    by_cases h : ∃ n r, Mini.whF t m n e s = some r
    · obtain ⟨n, r, hr⟩ := h
      exact ⟨n, r, hr, by rw [Mini.sWhile_eq hr] at q; exact q⟩
    · rw [Mini.sWhile_bad_of fun n r hr => h ⟨n, r, hr⟩] at q
      exact q.elim
  obtain ⟨n, r, hr, q⟩ := hw
  refine ⟨fun n σ H => ∃ α e s r, SR X.K P α e s σ H ∧ Mini.whF t m n e s = some r ∧ Post X.K E P α H r (endK X.K P D), ⟨n, α, e, s, r, hS, hr, q⟩, ?_⟩
  rintro n σ H ⟨α, e, s, r, hS, hr, q⟩
  refine ⟨P, α, e, s, hS, ?_⟩
  cases n with
  | zero => cases hr
  | succ n =>
    rw [Mini.whF] at hr
    cases ht : t e s with
    | bad => rw [ht] at hr; cases hr; exact q
    | exc c => rw [ht] at hr; cases hr; exact q
    | ok p =>
      rw [ht] at hr
      obtain ⟨b, s1⟩ := p
      intro α1 H1 g1 t1
      cases b with
      | false =>
        rw [if_neg (by simp)]
        cases hr
        exact q α1 H1 g1 t1 σ (hS.gr g1 t1)
      | true =>
        rw [if_pos rfl]
        dsimp only at hr
        refine ⟨fun σ' H' => ∃ m', m' < n + 1 ∧ ∃ α e s r, SR X.K P α e s σ' H' ∧ Mini.whF t m m' e s = some r ∧ Post X.K E P α H' r (endK X.K P D), fun _ _ z => z, P, α1, e, s1, hS.gr g1 t1, ?_⟩
        cases hm : m e s1 with
        | bad => rw [hm] at hr; cases hr; exact q
        | exc c => rw [hm] at hr; cases hr; exact Post.later (r := Mini.R.exc c) q g1
        | ok p2 =>
          rw [hm] at hr
          obtain ⟨o, s2⟩ := p2
          intro α2 H2 g2 t2
          cases o with
          | nx e2 => exact fun σ2 hS2 => ⟨n, by omega, α2, e2, s2, r, hS2, hr, q.later (g1.trans g2)⟩
          | ct e2 => exact fun σ2 hS2 => ⟨n, by omega, α2, e2, s2, r, hS2, hr, q.later (g1.trans g2)⟩
          | bk e2 => cases hr; exact q α2 H2 (g1.trans g2) t2
          | rt d2 => cases hr; exact q α2 H2 (g1.trans g2) t2
end
end Snd
end
section
namespace Snd
open PySem L2
open PyProof.Rows (envOfC)
/-! ### a def -/
theorem take_get {α : List Addr} {n k : Nat} {a : Addr} (h : (α.take n)[k]? = some a) : k < n ∧ α[k]? = some a := by
  rw [List.getElem?_take] at h
  split at h
  · rename_i hk; exact ⟨hk, h⟩
  · cases h
section
variable {K : PySem.W.Frag} {P α : List Addr} {s : Mini.Sto} {H : Hp}
theorem ext_take (hs : StR K P α s H) (n : Nat) : Ext (imm H P α) (imm H P (α.take n)) := fun b o q => by
  rw [imm_some] at q ⊢
  exact ⟨q.1, fun z => q.2.1 (List.mem_of_mem_take z), q.2.2⟩
theorem StR.take (hs : StR K P α s H) (n : Nat) : StR K P (α.take n) (s.take n) H := by
  refine ⟨hs.nd.sublist (List.take_sublist n α), fun a ha => hs.dis a (List.mem_of_mem_take ha), hs.pt, by simp [hs.len], fun k o a h1 h2 => ?_⟩
  rw [List.getElem?_take] at h1
  split at h1
  · exact (hs.ob k o a h1 (take_get h2).2).mono (ext_take hs n)
  · cases h1
mutual
theorem frz_dr (hs : StR K P α s H) (n : Nat) : ∀ {d d' : Mini.D} {v : V}, Mini.frz n s d = some d' → Dr K (imm H P α) α d v → Dr K (imm H P (α.take n)) (α.take n) d' v
  | .own k, d', v, e, h => by
    rw [Mini.frz] at e
    split at e
    · rename_i hk
      cases e
      rw [Dr] at h ⊢
      obtain ⟨a, h1, h2⟩ := h
      exact ⟨a, by rw [List.getElem?_take, if_pos hk]; exact h1, h2⟩
    · rename_i hk
      cases hk2 : s[k]? with
      | none => rw [hk2] at e; cases e
      | some o =>
        obtain ⟨a, h1, rfl, h2⟩ := own_ob hs h hk2
        have nt : a ∉ α.take n := fun z => by
          obtain ⟨j, hj, e1⟩ := List.getElem_of_mem z
          have hj' : j < n ∧ j < α.length := by simp at hj; omega
          rw [List.getElem_take] at e1
          have e2 := (List.getElem?_eq_some_iff.mp h1).2
          have := (List.getElem_inj hs.nd).mp (e1.trans e2.symm)
          omega
        have np : a ∉ P := hs.dis a (List.mem_of_getElem? h1)
        cases o with
        | L ds =>
          rw [hk2] at e
          cases e
          obtain ⟨xs, hx, hd⟩ := h2
          rw [Dr]
          exact ⟨a, xs, rfl, imm_some.mpr ⟨np, nt, hx⟩, DrL.mono (ext_take hs n) (fun _ _ q => q) hd⟩
        | DT ks =>
          rw [hk2] at e
          cases e
          rw [ObR] at h2
          rw [Dr]
          exact ⟨a, _, rfl, imm_some.mpr ⟨np, nt, h2⟩, by simp⟩
        | DI ks => rw [hk2] at e; cases e
  | .tup ds, d', v, e, h => by
    rw [Mini.frz] at e
    obtain ⟨es, he, rfl⟩ := Option.map_eq_some_iff.mp e
    rw [Dr] at h ⊢
    obtain ⟨a, xs, h1, h2, h3⟩ := h
    exact ⟨a, xs, h1, ext_take hs n _ _ h2, frz_drL hs n he h3⟩
  | .lst ds, d', v, e, h => by
    simp only [Mini.frz] at e
    cases e
    rw [Dr] at h ⊢
    obtain ⟨a, xs, h1, h2, h3⟩ := h
    exact ⟨a, xs, h1, ext_take hs n _ _ h2, DrL.mono (ext_take hs n) (fun _ _ q => q) h3⟩
  | .scr ns, d', v, e, h => by
    simp only [Mini.frz] at e
    cases e
    rw [Dr] at h ⊢
    obtain ⟨a, h1, h2⟩ := h
    exact ⟨a, h1, (ext_take hs n).sqL h2⟩
  | .dic m, d', v, e, h => by
    simp only [Mini.frz] at e
    cases e
    rw [Dr] at h ⊢
    obtain ⟨a, kvs, h1, h2, h3⟩ := h
    exact ⟨a, kvs, h1, ext_take hs n _ _ h2, h3⟩
  | .non, d', v, e, h => by simp only [Mini.frz] at e; cases e; rw [Dr] at h ⊢; exact h
  | .bl _, d', v, e, h => by simp only [Mini.frz] at e; cases e; rw [Dr] at h ⊢; exact h
  | .int _, d', v, e, h => by simp only [Mini.frz] at e; cases e; rw [Dr] at h ⊢; exact h
  | .str _, d', v, e, h => by simp only [Mini.frz] at e; cases e; rw [Dr] at h ⊢; exact h
theorem frz_drL (hs : StR K P α s H) (n : Nat) : ∀ {d d' : List Mini.D} {v : List V}, Mini.frzL n s d = some d' → DrL K (imm H P α) α d v → DrL K (imm H P (α.take n)) (α.take n) d' v
  | [], d', v, e, h => by
    rw [Mini.frzL] at e
    cases e
    cases v with
    | nil => simp [DrL]
    | cons => simp [DrL] at h
  | d :: ds, d', v, e, h => by
    rw [Mini.frzL] at e
    obtain ⟨x, hx, e⟩ := Option.bind_eq_some_iff.mp e
    obtain ⟨xs, hxs, rfl⟩ := Option.map_eq_some_iff.mp e
    cases v with
    | nil => simp [DrL] at h
    | cons v vs =>
      rw [DrL] at h ⊢
      exact ⟨frz_dr hs n hx h.1, frz_drL hs n hxs h.2⟩
end
/-- the body's end is the def's end -/
theorem body_end {E : XC} {names : Nat} {m : Mini.S} {ds : List Mini.D} {Q : VK} (hs : StR K P α s H) (h : Post K E P α H (Mini.runG names m ds s) fun d s' α' H' => ∀ v, Dr K (imm H' P α') α' d v → Q v H') :
    Post K E P α H (m (Mini.ent names ds) s) (endK K P { nx := fun _ H' => Q .non H', rt := Q }) := by
  unfold Mini.runG at h
  cases hm : m (Mini.ent names ds) s with
  | bad => rw [hm] at h; exact h.elim
  | exc c => rw [hm] at h; exact h
  | ok p =>
    rw [hm] at h
    obtain ⟨o, s1⟩ := p
    intro α1 H1 g1 t1
    have pre : α1.take s.length = α := by
      apply List.ext_getElem?
      intro k
      rw [List.getElem?_take]
      split
      · rename_i hk
        have hk' : k < α.length := by rw [← hs.len]; exact hk
        rw [List.getElem?_eq_getElem hk', g1.pre k _ (List.getElem?_eq_getElem hk')]
      · rename_i hk
        rw [List.getElem?_eq_none (by rw [← hs.len]; omega)]
    have g2 : Gr P α H α H1 := ⟨fun _ _ q => q, by have := g1.ext.trans (ext_take t1 s.length); rw [pre] at this; exact this, g1.keep⟩
    have t2 := t1.take s.length
    rw [pre] at t2
    cases o with
    | nx e =>
      simp only [Mini.fin, Mini.R.bind_ok, Mini.frz, Mini.R.of_some] at h
      exact fun σ _ => h α H1 g2 t2 .non (by simp [Dr])
    | rt d =>
      simp only [Mini.fin, Mini.R.bind_ok] at h
      intro v hv
      obtain ⟨d', hd, q⟩ := Post.unof (f := fun d => Mini.R.ok (d, s1.take s.length)) h
      have hv2 := frz_dr t1 s.length hd hv
      rw [pre] at hv2
      exact q α H1 g2 t2 v hv2
    | bk e => simp only [Mini.fin, Mini.R.bind_ok, Mini.R.bind_bad] at h; exact h.elim
    | ct e => simp only [Mini.fin, Mini.R.bind_ok, Mini.R.bind_bad] at h; exact h.elim
end
theorem ent_env {K : PySem.W.Frag} {G : Hp} {α : List Addr} {N : List Str} {ds : List Mini.D} {vs : List V} (h : DrL K G α ds vs) : EnvR K G α (Mini.ent N.length ds) (L2.start N vs) := by
  have hl := h.len
  refine ⟨by simp [Mini.ent, L2.start, hl], fun i d q => ?_⟩
  unfold Mini.ent at q
  by_cases hi : i < ds.length
  · rw [List.getElem?_append_left (by simpa using hi), List.getElem?_map] at q
    obtain ⟨d', h1, h2⟩ := Option.map_eq_some_iff.mp q
    cases h2
    obtain ⟨v, h3, h4⟩ := h.at h1
    refine ⟨v, ?_, h4⟩
    unfold L2.start
    rw [List.getElem?_append_left (by simp; omega), List.getElem?_map, h3]
    rfl
  · rw [List.getElem?_append_right (by simpa using hi)] at q
    rw [List.getElem?_replicate] at q
    split at q <;> cases q
section
variable {P : Program} {w : World} {K : PySem.W.Frag} {mg : Str → Option Value} {base : Heap} {x qual : Str} {st : Stmt} {f : Addr} {fd : FuncData} {N ps : List Str} {k : Nat} {m : Mini.S} {C : Nat → Addr}
/-- φ says no more than ψ -/
def Le (φ ψ : List Mini.D → Mini.R Mini.D) : Prop := ∀ ds, φ ds = .bad ∨ φ ds = ψ ds
def LeG (φ ψ : Mini.F) : Prop := ∀ ds s, φ ds s = .bad ∨ φ ds s = ψ ds s
theorem spP_le {n : Nat} {φ ψ : List Mini.D → Mini.R Mini.D} (h : Le φ ψ) : ∀ vs H Q E, spP K C n φ vs H Q E → spP K C n ψ vs H Q E := fun vs H Q E ⟨hn, P, ds, hP, hd, q⟩ => ⟨hn, P, ds, hP, hd, by
  rcases h ds with z | z
  · rw [z] at q; exact q.elim
  · rw [← z]; exact q⟩
theorem spG_le {n : Nat} {φ ψ : Mini.F} (h : LeG φ ψ) : ∀ vs H Q E, spG K C n φ vs H Q E → spG K C n ψ vs H Q E := fun vs H Q E ⟨hn, P, α, s, ds, hs, hd, q⟩ => ⟨hn, P, α, s, ds, hs, hd, by
  rcases h ds s with z | z
  · rw [z] at q; exact q.elim
  · rw [← z]; exact q⟩
theorem fn_le {CX : CXT} {n : Nat} {φ ψ : List Mini.D → Mini.R Mini.D} (F : FnOk P w K mg base CX k f fd ps (spP K C n ψ)) (h : Le φ ψ) : FnOk P w K mg base CX k f fd ps (spP K C n φ) := F.imp (spP_le h)
theorem fn_leG {CX : CXT} {n : Nat} {φ ψ : Mini.F} (F : FnOk P w K mg base CX k f fd ps (spG K C n ψ)) (h : LeG φ ψ) : FnOk P w K mg base CX k f fd ps (spG K C n φ) := F.imp (spG_le h)
/-- nothing is asked -/
theorem fn_none {CX : CXT} {φ : List Mini.D → Mini.R Mini.D} (h : ∀ ds, φ ds = .bad) : FnOk P w K mg base CX k f fd ps (spP K C ps.length φ) :=
  ⟨fun vs H Q E q => q.1, fun A outer s H args us vs Q E _ _ _ _ q => by obtain ⟨_, P, ds, _, _, q⟩ := q; rw [h ds] at q; exact q.elim⟩
theorem fn_noneG {CX : CXT} {φ : Mini.F} (h : ∀ ds s, φ ds s = .bad) : FnOk P w K mg base CX k f fd ps (spG K C ps.length φ) :=
  ⟨fun vs H Q E q => q.1, fun A outer s H args us vs Q E _ _ _ _ q => by obtain ⟨_, P, α, s, ds, _, _, q⟩ := q; rw [h ds s] at q; exact q.elim⟩
abbrev cx0 (P : Program) (w : World) (K : PySem.W.Frag) (mg : Str → Option Value) (base : Heap) (N : List Str) (qual : Str) (st : Stmt) (f : Addr) (cdv : Value) (A : Around) (outer : List PySem.Env) (s : Shared) (H : Hp) (E : XK) : Cx := (cxOf CX0 P w K mg base N qual (defScope st) f cdv A outer s H E).nox
abbrev cxX (P : Program) (w : World) (K : PySem.W.Frag) (mg : Str → Option Value) (base : Heap) (N : List Str) (qual : Str) (st : Stmt) (f : Addr) (cdv : Value) (A : Around) (outer : List PySem.Env) (s : Shared) (H : Hp) (E : XK) : Cx := cxOf (L2.CX P w) P w K mg base N qual (defScope st) f cdv A outer s H E
/-- a def that has nothing to do with what its callers own, and raises nothing -/
theorem fn_P (F : Fun K x qual st f fd) (S : FnScope N ps (defScope st))
    (body : ∀ cdv A outer s H E, Room k (A.deeper (envOfC qual (defScope st) s.heap.objs.size f cdv)) → PSs (cx0 P w K mg base N qual st f cdv A outer s H E) (defBody st) (tS K E00 m)) :
    FnOk P w K mg base CX0 (k + 1) f fd ps (spP K C ps.length fun ds => (Mini.run N.length m ds).nox) := by
  refine F.ok S (fun vs H Q E q => q.1) fun cdv A outer s H vs Q E hr q => ⟨_, body cdv A outer s H E hr, ?_⟩
  obtain ⟨hn, Pr, ds, hP, hd, q⟩ := q
  have hs : StR K Pr [] [] H := ⟨by simp, by simp, hP, rfl, by simp⟩
  refine ⟨Pr, [], Mini.ent N.length ds, [], ⟨hs, ent_env hd⟩, body_end hs ?_⟩
  dsimp only [Mini.run] at q
  cases h : Mini.runG N.length m ds [] with
  | bad => rw [h] at q; exact q.elim
  | exc c => rw [h] at q; exact q.elim
  | ok p =>
    rw [h] at q
    intro α' H' g t v hv
    have : α' = [] := by
      have e : p.2 = [] := by
        unfold Mini.runG at h
        obtain ⟨p1, _, h⟩ := bind_ok h
        obtain ⟨d, _, h⟩ := bind_ok h
        cases h
        simp
      have := t.len
      rw [e] at this
      exact List.eq_nil_of_length_eq_zero this.symm
    subst this
    exact q v H' g.all hv
theorem fn_G (F : Fun K x qual st f fd) (S : FnScope N ps (defScope st))
    (body : ∀ cdv A outer s H E, Room k (A.deeper (envOfC qual (defScope st) s.heap.objs.size f cdv)) → PSs (cx0 P w K mg base N qual st f cdv A outer s H E) (defBody st) (tS K E00 m)) :
    FnOk P w K mg base CX0 (k + 1) f fd ps (spG K C ps.length fun ds s => (Mini.runG N.length m ds s).nox) := by
  refine F.ok S (fun vs H Q E q => q.1) fun cdv A outer s H vs Q E hr q => ⟨_, body cdv A outer s H E hr, ?_⟩
  obtain ⟨hn, Pr, α, s0, ds, hs, hd, q⟩ := q
  refine ⟨Pr, α, Mini.ent N.length ds, s0, ⟨hs, ent_env hd⟩, body_end hs ?_⟩
  dsimp only at q
  cases h : Mini.runG N.length m ds s0 with
  | bad => rw [h] at q; exact q.elim
  | exc c => rw [h] at q; exact q.elim
  | ok p => rw [h] at q; exact q
/-- .. a def that may raise -/
theorem fn_PX (F : Fun K x qual st f fd) (S : FnScope N ps (defScope st))
    (body : ∀ cdv A outer s H E, Room k (A.deeper (envOfC qual (defScope st) s.heap.objs.size f cdv)) → PSs (cxX P w K mg base N qual st f cdv A outer s H E) (defBody st) (tS K (fun c oe H' => E (.ref (C c)) oe H') m)) :
    FnOk P w K mg base (L2.CX P w) (k + 1) f fd ps (spP K C ps.length (Mini.run N.length m)) := by
  refine F.okX S (fun vs H Q E q => q.1) fun cdv A outer s H vs Q E hr q => ⟨_, body cdv A outer s H E hr, ?_⟩
  obtain ⟨hn, Pr, ds, hP, hd, q⟩ := q
  have hs : StR K Pr [] [] H := ⟨by simp, by simp, hP, rfl, by simp⟩
  refine ⟨Pr, [], Mini.ent N.length ds, [], ⟨hs, ent_env hd⟩, body_end hs ?_⟩
  dsimp only [Mini.run] at q
  cases h : Mini.runG N.length m ds [] with
  | bad => rw [h] at q; exact q.elim
  | exc c =>
    rw [h] at q
    exact fun oe α' H' g => q oe H' g.all
  | ok p =>
    rw [h] at q
    intro α' H' g t v hv
    have : α' = [] := by
      have e : p.2 = [] := by
        unfold Mini.runG at h
        obtain ⟨p1, _, h⟩ := bind_ok h
        obtain ⟨d, _, h⟩ := bind_ok h
        cases h
        simp
      have := t.len
      rw [e] at this
      exact List.eq_nil_of_length_eq_zero this.symm
    subst this
    exact q v H' g.all hv
end
/-- how many arguments there are -/
def ALen (a : Mini.A) (n : Nat) : Prop := ∀ e s ds s', a e s = .ok (ds, s') → ds.length = n
theorem alen_nil : ALen Mini.aNil 0 := fun e s ds s' h => by cases h; rfl
theorem alen_cons {m : Mini.M} {a : Mini.A} {n : Nat} (h : ALen a n) : ALen (Mini.aCons m a) (n + 1) := fun e s ds s' q => by
  obtain ⟨p, _, q⟩ := bind_ok q
  obtain ⟨p2, h2, q⟩ := bind_ok q
  cases q
  exact congrArg (· + 1) (h e _ _ _ h2)
end Snd
end
section
namespace Bd
open Mini
/-- bare(tree); 0 tree, 1 part -/
noncomputable def b_p_bare (r_p_bare : List D → R D) : S :=
  (sCons (sIf (tV (mOp opEq (mOp opIx (mV 0) (mC (.int 0))) (mC (.str [116, 97, 107, 101])))) (sRet (mC (.bl false))) sNil)
    (sCons (sIf (tV (mOp opEq (mOp opIx (mV 0) (mC (.int 0))) (mC (.str [114, 111, 119])))) (sRet (mB bAll (mLc 1 (iSeq (mOp opIx (mV 0) (mC (.int 1)))) tYes (mCall r_p_bare (aCons (mV 1) aNil))))) sNil)
    (sCons (sIf (tV (mOp opEq (mOp opIx (mV 0) (mC (.int 0))) (mC (.str [112, 105, 99, 107])))) (sRet (mB bAny (mLc 1 (iSeq (mOp opIx (mV 0) (mC (.int 1)))) tYes (mCall r_p_bare (aCons (mV 1) aNil))))) sNil)
    (sRet (mC (.bl true))))))
noncomputable def f_p_bare : Nat → List D → R D
  | 0 => fun _ => .bad
  | n + 1 => fun ds => (run 2 (b_p_bare (f_p_bare n)) ds).nox
/-- row_of(pieces); 0 pieces -/
noncomputable def b_p_row_of  : S :=
  (sCons (sIf (tV (mOp opEq (mB bLen (mV 0)) (mC (.int 1)))) (sRet (mOp opIx (mV 0) (mC (.int 0)))) sNil)
    (sRet (mTup (aCons (mC (.str [114, 111, 119])) (aCons (mB bTup (mV 0)) aNil)))))
noncomputable def f_p_row_of : List D → R D := fun ds => (run 1 b_p_row_of ds).nox
/-- pick_of(rows); 0 rows -/
noncomputable def b_p_pick_of  : S :=
  (sCons (sIf (tV (mOp opEq (mB bLen (mV 0)) (mC (.int 1)))) (sRet (mOp opIx (mV 0) (mC (.int 0)))) sNil)
    (sRet (mTup (aCons (mC (.str [112, 105, 99, 107])) (aCons (mB bTup (mV 0)) aNil)))))
noncomputable def f_p_pick_of : List D → R D := fun ds => (run 1 b_p_pick_of ds).nox
/-- set_at(pattern, at); 0 pattern, 1 at, 2 inside, 3 signs -/
noncomputable def t_p_set_at_1 : T := (tV (mOp opNe (mSl (mV 0) (poS (mV 1)) (poS (mOp opAdd (mV 1) (mC (.int 1))))) (mC (.str [93]))))
noncomputable def c_p_set_at_1 : S := (sCons (sIf (tV (mOp opEq (mSl (mV 0) (poS (mV 1)) (poS (mOp opAdd (mV 1) (mC (.int 1))))) (mC (.str [126])))) (sSet 1 (mOp opAdd (mV 1) (mC (.int 1)))) sNil)
    (sCons (sIf (tV (mOp opGe (mV 1) (mB bLen (mV 0)))) sBad sNil)
    (sCons (sSet 3 (mOp opAdd (mV 3) (mOp opIx (mV 0) (mV 1))))
    (sSet 1 (mOp opAdd (mV 1) (mC (.int 1)))))))
noncomputable def b_p_set_at  : S :=
  (sCons (sSet 2 (mC (.bl true)))
    (sCons (sSet 3 (mC (.str [])))
    (sCons (sIf (tV (mOp opEq (mSl (mV 0) (poS (mV 1)) (poS (mOp opAdd (mV 1) (mC (.int 1))))) (mC (.str [33])))) (sCons (sSet 2 (mC (.bl false)))
    (sSet 1 (mOp opAdd (mV 1) (mC (.int 1))))) sNil)
    (sCons (sWhile t_p_set_at_1 c_p_set_at_1)
    (sRet (mTup (aCons (mTup (aCons (mC (.str [116, 97, 107, 101])) (aCons (mV 2) (aCons (mV 3) aNil)))) (aCons (mOp opAdd (mV 1) (mC (.int 1))) aNil))))))))
noncomputable def f_p_set_at : List D → R D := fun ds => (run 4 b_p_set_at ds).nox
/-- piece_at(pattern, at); 0 pattern, 1 at, 2 sign -/
noncomputable def b_p_piece_at_5 : S := (sRet (mTup (aCons (mTup (aCons (mC (.str [116, 97, 107, 101])) (aCons (mC (.bl true)) (aCons (mV 2) aNil)))) (aCons (mOp opAdd (mV 1) (mC (.int 1))) aNil))))
noncomputable def b_p_piece_at_4 : S := (sCons (sIf (tV (mOp opEq (mV 2) (mC (.str [126])))) (sCons (sIf (tV (mOp opGe (mOp opAdd (mV 1) (mC (.int 1))) (mB bLen (mV 0)))) sBad sNil)
    (sRet (mTup (aCons (mTup (aCons (mC (.str [116, 97, 107, 101])) (aCons (mC (.bl true)) (aCons (mOp opIx (mV 0) (mOp opAdd (mV 1) (mC (.int 1)))) aNil)))) (aCons (mOp opAdd (mV 1) (mC (.int 2))) aNil))))) sNil) b_p_piece_at_5)
noncomputable def b_p_piece_at_3 : S := (sCons (sIf (tV (mOp opEq (mV 2) (mC (.str [46])))) (sRet (mTup (aCons (mTup (aCons (mC (.str [116, 97, 107, 101])) (aCons (mC (.bl false)) (aCons (mC (.str [])) aNil)))) (aCons (mOp opAdd (mV 1) (mC (.int 1))) aNil)))) sNil) b_p_piece_at_4)
noncomputable def b_p_piece_at_2 : S := (sCons (sIf (tV (mOp opEq (mV 2) (mC (.str [91])))) (sRet (mCall f_p_set_at (aCons (mV 0) (aCons (mOp opAdd (mV 1) (mC (.int 1))) aNil)))) sNil) b_p_piece_at_3)
noncomputable def b_p_piece_at_1 : S := (sCons (sIf (tV (mOp opEq (mV 2) (mC (.str [93])))) sBad sNil) b_p_piece_at_2)
noncomputable def b_p_piece_at  : S :=
  (sCons (sSet 2 (mOp opIx (mV 0) (mV 1))) b_p_piece_at_1)
noncomputable def f_p_piece_at : List D → R D := fun ds => (run 3 b_p_piece_at ds).nox
/-- repeated(sign, ready, pieces, eager); 0 sign, 1 ready, 2 pieces, 3 eager, 4 part -/
noncomputable def b_p_repeated  : S :=
  (sCons (sIf (tNot (tT (mV 1))) sBad sNil)
    (sCons (sSet 4 (mOp opIx (mV 2) (mNeg (mC (.int 1)))))
    (sCons (sIf (tV (mOp opEq (mV 0) (mC (.str [63])))) (sRet (mTup (aCons (mC (.str [109, 97, 121, 98, 101])) (aCons (mV 4) (aCons (mV 3) aNil))))) sNil)
    (sCons (sIf (tT (mCall (f_p_bare 200) (aCons (mV 4) aNil))) sBad sNil)
    (sRet (mTup (aCons (mC (.str [109, 97, 110, 121])) (aCons (mV 4) (aCons (mV 3) aNil)))))))))
noncomputable def f_p_repeated : List D → R D := fun ds => (run 5 b_p_repeated ds).nox
/-- closed(frames); 0 frames, 1 last, 2 above, 3 tree -/
noncomputable def b_p_closed  : S :=
  (sCons (sIf (tV (mOp opEq (mB bLen (mV 0)) (mC (.int 1)))) sBad sNil)
    (sCons (sSet 1 (mOp opIx (mV 0) (mNeg (mC (.int 1)))))
    (sCons (sSet 2 (mOp opIx (mV 0) (mNeg (mC (.int 2)))))
    (sCons (sSet 3 (mCall f_p_pick_of (aCons (mOp opAdd (mOp opIx (mV 1) (mC (.int 0))) (mLst (aCons (mCall f_p_row_of (aCons (mOp opIx (mV 1) (mC (.int 1))) aNil)) aNil))) aNil)))
    (sRet (mOp opAdd (mSl (mV 0) poN (poS (mNeg (mC (.int 2))))) (mLst (aCons (mTup (aCons (mOp opIx (mV 2) (mC (.int 0))) (aCons (mOp opAdd (mOp opIx (mV 2) (mC (.int 1))) (mLst (aCons (mV 3) aNil))) aNil))) aNil))))))))
noncomputable def f_p_closed : List D → R D := fun ds => (run 4 b_p_closed ds).nox
/-- opened(frames); 0 frames -/
noncomputable def b_p_opened  : S :=
  (sCons (sIf (tV (mOp opGt (mB bLen (mV 0)) (mC (.int 30)))) sBad sNil)
    (sRet (mOp opAdd (mV 0) (mLst (aCons (mTup (aCons (mLst aNil) (aCons (mLst aNil) aNil))) aNil)))))
noncomputable def f_p_opened : List D → R D := fun ds => (run 1 b_p_opened ds).nox
/-- read(pattern); 0 pattern, 1 frames, 2 ready, 3 at, 4 sign, 5 rows, 6 pieces, 7 eager, 8 part, 9 piece -/
noncomputable def t_p_read_1 : T := (tV (mOp opLt (mV 3) (mB bLen (mV 0))))
noncomputable def c_p_read_1 : S := (sCons (sSet 4 (mOp opIx (mV 0) (mV 3)))
    (sCons (sSet 5 (mOp opIx (mOp opIx (mV 1) (mNeg (mC (.int 1)))) (mC (.int 0))))
    (sCons (sSet 6 (mOp opIx (mOp opIx (mV 1) (mNeg (mC (.int 1)))) (mC (.int 1))))
    (sCons (sIf (tV (mOp opEq (mV 4) (mC (.str [40])))) (sSet 1 (mCall f_p_opened (aCons (mV 1) aNil))) (sIf (tV (mOp opEq (mV 4) (mC (.str [41])))) (sSet 1 (mCall f_p_closed (aCons (mV 1) aNil))) (sIf (tV (mOp opEq (mV 4) (mC (.str [124])))) (sSet 1 (mOp opAdd (mSl (mV 1) poN (poS (mNeg (mC (.int 1))))) (mLst (aCons (mTup (aCons (mOp opAdd (mV 5) (mLst (aCons (mCall f_p_row_of (aCons (mV 6) aNil)) aNil))) (aCons (mLst aNil) aNil))) aNil)))) (sIf (tOr (tV (mOp opEq (mV 4) (mC (.str [42])))) (tV (mOp opEq (mV 4) (mC (.str [63]))))) (sCons (sSet 7 (mOp opNe (mSl (mV 0) (poS (mOp opAdd (mV 3) (mC (.int 1)))) (poS (mOp opAdd (mV 3) (mC (.int 2))))) (mC (.str [33]))))
    (sCons (sSet 8 (mCall f_p_repeated (aCons (mV 4) (aCons (mV 2) (aCons (mV 6) (aCons (mV 7) aNil))))))
    (sCons (sSet 1 (mOp opAdd (mSl (mV 1) poN (poS (mNeg (mC (.int 1))))) (mLst (aCons (mTup (aCons (mV 5) (aCons (mOp opAdd (mSl (mV 6) poN (poS (mNeg (mC (.int 1))))) (mLst (aCons (mV 8) aNil))) aNil))) aNil))))
    (sIf (tNot (tT (mV 7))) (sSet 3 (mOp opAdd (mV 3) (mC (.int 1)))) sNil)))) (sCons (sSet 9 (mCall f_p_piece_at (aCons (mV 0) (aCons (mV 3) aNil))))
    (sCons (sSet 1 (mOp opAdd (mSl (mV 1) poN (poS (mNeg (mC (.int 1))))) (mLst (aCons (mTup (aCons (mV 5) (aCons (mOp opAdd (mV 6) (mLst (aCons (mOp opIx (mV 9) (mC (.int 0))) aNil))) aNil))) aNil))))
    (sSet 3 (mOp opSub (mOp opIx (mV 9) (mC (.int 1))) (mC (.int 1))))))))))
    (sCons (sSet 2 (mOp opNotIn (mV 4) (mC (.str [40, 124, 42, 63]))))
    (sSet 3 (mOp opAdd (mV 3) (mC (.int 1)))))))))
noncomputable def b_p_read_5 : S := (sRet (mCall f_p_pick_of (aCons (mOp opAdd (mOp opIx (mOp opIx (mV 1) (mC (.int 0))) (mC (.int 0))) (mLst (aCons (mCall f_p_row_of (aCons (mOp opIx (mOp opIx (mV 1) (mC (.int 0))) (mC (.int 1))) aNil)) aNil))) aNil)))
noncomputable def b_p_read_4 : S := (sCons (sIf (tV (mOp opGt (mB bLen (mV 1)) (mC (.int 1)))) sBad sNil) b_p_read_5)
noncomputable def b_p_read_3 : S := (sCons (sWhile t_p_read_1 c_p_read_1) b_p_read_4)
noncomputable def b_p_read_2 : S := (sCons (sSet 3 (mC (.int 0))) b_p_read_3)
noncomputable def b_p_read_1 : S := (sCons (sSet 2 (mC (.bl false))) b_p_read_2)
noncomputable def b_p_read  : S :=
  (sCons (sSet 1 (mLst (aCons (mTup (aCons (mLst aNil) (aCons (mLst aNil) aNil))) aNil))) b_p_read_1)
noncomputable def f_p_read : List D → R D := fun ds => (run 10 b_p_read ds).nox
/-- _law_cell_at(_law_script, _law_k); 0 _law_script, 1 _law_k -/
noncomputable def b_l_cell_at  : S :=
  (sCons (sIf (tV (mOp opLt (mV 1) (mB bLen (mV 0)))) (sRet (mOp opIx (mV 0) (mV 1))) sNil)
    (sRet (mC (.int 0))))
noncomputable def f_l_cell_at : List D → R D := fun ds => (run 2 b_l_cell_at ds).nox
/-- _law_sign_by(_law_cell); 0 _law_cell, 1 _law_some -/
noncomputable def b_l_sign_by  : S :=
  (sCons (sSet 1 (mC (.str [32, 33, 34, 35, 36, 38, 39, 40, 41, 42, 43, 44, 45, 46, 47, 48, 49, 50, 51, 52, 53, 54, 55, 56, 57, 58, 59, 60, 61, 62, 63, 64, 65, 66, 67, 68, 69, 70, 71, 72, 73, 74, 75, 76, 77, 78, 79, 80, 81, 82, 83, 84, 85, 86, 87, 88, 89, 90, 91, 92, 93, 94, 95, 96])))
    (sCons (sSet 1 (mOp opAdd (mV 1) (mC (.str [97, 98, 99, 100, 101, 102, 103, 104, 105, 106, 107, 108, 109, 110, 111, 112, 113, 114, 115, 116, 117, 118, 119, 120, 121, 122, 123, 124, 125, 126, 10, 9]))))
    (sRet (mOp opIx (mV 1) (mOp opMod (mV 0) (mC (.int 96)))))))
noncomputable def f_l_sign_by : List D → R D := fun ds => (run 2 b_l_sign_by ds).nox
/-- _law_three_by(_law_cell); 0 _law_cell -/
noncomputable def b_l_three_by  : S :=
  (sRet (mOp opAdd (mOp opAdd (mCall f_l_sign_by (aCons (mV 0) aNil)) (mCall f_l_sign_by (aCons (mOp opAdd (mV 0) (mC (.int 31))) aNil))) (mCall f_l_sign_by (aCons (mOp opAdd (mV 0) (mC (.int 62))) aNil))))
noncomputable def f_l_three_by : List D → R D := fun ds => (run 1 b_l_three_by ds).nox
/-- _law_alike(_law_found, _law_due); 0 _law_found, 1 _law_due, 2 _law_k -/
noncomputable def b_l_alike (r_l_alike : List D → R D) : S :=
  (sCons (sIf (tT (mB (isTy .tuple) (mV 1))) (sCons (sIf (tOr (tNot (tT (mB (isTy .tuple) (mV 0)))) (tV (mOp opNe (mB bLen (mV 0)) (mB bLen (mV 1))))) (sRet (mC (.bl false))) sNil)
    (sRet (mB bAll (mLc 2 (iR1 (mB bLen (mV 1))) tYes (mCall r_l_alike (aCons (mOp opIx (mV 0) (mV 2)) (aCons (mOp opIx (mV 1) (mV 2)) aNil))))))) sNil)
    (sCons (sIf (tT (mB (isTy .bool) (mV 1))) (sRet (mAnd (mB (isTy .bool) (mV 0)) (mOp opEq (mV 0) (mV 1)))) sNil)
    (sRet (mAnd (mB (isTy .str) (mV 0)) (mOp opEq (mV 0) (mV 1))))))
noncomputable def f_l_alike : Nat → List D → R D
  | 0 => fun _ => .bad
  | n + 1 => fun ds => (run 3 (b_l_alike (f_l_alike n)) ds).nox
/-- _law_sign_in(_law_cell, _law_leading); 0 _law_cell, 1 _law_leading, 2 _law_sign -/
noncomputable def b_l_sign_in  : S :=
  (sCons (sSet 2 (mCall f_l_sign_by (aCons (mV 0) aNil)))
    (sCons (sIf (tOr (tV (mOp opIn (mV 2) (mC (.str [126, 93])))) (tOr (tAnd (tT (mV 1)) (tV (mOp opEq (mV 2) (mC (.str [33]))))) (tV (mOp opEq (mOp opMod (mOp opDiv (mV 0) (mC (.int 96))) (mC (.int 3))) (mC (.int 1)))))) (sRet (mOp opAdd (mC (.str [126])) (mV 2))) sNil)
    (sRet (mV 2))))
noncomputable def f_l_sign_in : List D → R D := fun ds => (run 3 b_l_sign_in ds).nox
/-- _law_set_by(_law_cell, _law_large); 0 _law_cell, 1 _law_large, 2 _law_many, 3 _law_rest, 4 _law_told, 5 _law_signs, 6 _law_k -/
noncomputable def c_l_set_by_1 : S := (sCons (sSet 4 (mOp opAdd (mV 4) (mCall f_l_sign_in (aCons (mOp opAdd (mV 3) (mOp opMul (mC (.int 29)) (mV 6))) (aCons (mAnd (mOp opEq (mV 6) (mC (.int 0))) (mOp opEq (mOp opMod (mV 0) (mC (.int 2))) (mC (.int 0)))) aNil)))))
    (sSet 5 (mOp opAdd (mV 5) (mCall f_l_sign_by (aCons (mOp opAdd (mV 3) (mOp opMul (mC (.int 29)) (mV 6))) aNil)))))
noncomputable def b_l_set_by_6 : S := (sRet (mTup (aCons (mOp opAdd (mV 4) (mC (.str [93]))) (aCons (mTup (aCons (mC (.str [116, 97, 107, 101])) (aCons (mOp opEq (mOp opMod (mV 0) (mC (.int 2))) (mC (.int 0))) (aCons (mV 5) aNil)))) aNil))))
noncomputable def b_l_set_by_5 : S := (sCons (sFor 6 (iR1 (mV 2)) c_l_set_by_1) b_l_set_by_6)
noncomputable def b_l_set_by_4 : S := (sCons (sSet 5 (mC (.str []))) b_l_set_by_5)
noncomputable def b_l_set_by_3 : S := (sCons (sSet 4 (mIf (tV (mOp opEq (mOp opMod (mV 0) (mC (.int 2))) (mC (.int 0)))) (mC (.str [91])) (mC (.str [91, 33])))) b_l_set_by_4)
noncomputable def b_l_set_by_2 : S := (sCons (sSet 3 (mOp opDiv (mV 0) (mC (.int 42)))) b_l_set_by_3)
noncomputable def b_l_set_by_1 : S := (sCons (sIf (tAnd (tT (mV 1)) (tV (mOp opEq (mOp opMod (mOp opDiv (mV 0) (mC (.int 6))) (mC (.int 3))) (mC (.int 0))))) (sSet 2 (mOp opAdd (mC (.int 20)) (mOp opMod (mOp opDiv (mV 0) (mC (.int 18))) (mC (.int 70))))) sNil) b_l_set_by_2)
noncomputable def b_l_set_by  : S :=
  (sCons (sSet 2 (mOp opAdd (mOp opMod (mOp opDiv (mV 0) (mC (.int 2))) (mC (.int 3))) (mOp opMul (mC (.int 9)) (mB bInt (mOp opEq (mOp opMod (mOp opDiv (mV 0) (mC (.int 6))) (mC (.int 7))) (mC (.int 3))))))) b_l_set_by_1)
noncomputable def f_l_set_by : List D → R D := fun ds => (run 7 b_l_set_by ds).nox
/-- _law_piece_by(_law_cell, _law_large, _law_is_free); 0 _law_cell, 1 _law_large, 2 _law_is_free, 3 _law_way, 4 _law_rest, 5 _law_sign -/
noncomputable def b_l_piece_by_7 : S := (sRet (mTup (aCons (mV 5) (aCons (mTup (aCons (mC (.str [116, 97, 107, 101])) (aCons (mC (.bl true)) (aCons (mV 5) aNil)))) aNil))))
noncomputable def b_l_piece_by_6 : S := (sCons (sIf (tOr (tV (mOp opIn (mV 5) (mC (.str [40, 41, 124, 42, 63, 46, 91, 93, 126, 33])))) (tV (mOp opEq (mOp opMod (mOp opDiv (mV 4) (mC (.int 96))) (mC (.int 4))) (mC (.int 1))))) (sRet (mTup (aCons (mOp opAdd (mC (.str [126])) (mV 5)) (aCons (mTup (aCons (mC (.str [116, 97, 107, 101])) (aCons (mC (.bl true)) (aCons (mV 5) aNil)))) aNil)))) sNil) b_l_piece_by_7)
noncomputable def b_l_piece_by_5 : S := (sCons (sSet 5 (mCall f_l_sign_by (aCons (mV 4) aNil))) b_l_piece_by_6)
noncomputable def b_l_piece_by_4 : S := (sCons (sIf (tAnd (tV (mOp opEq (mV 3) (mC (.int 2)))) (tV (mOp opEq (mOp opMod (mV 4) (mC (.int 3))) (mC (.int 0))))) (sRet (mTup (aCons (mIf (tT (mV 2)) (mC (.str [33])) (mC (.str [126, 33]))) (aCons (mTup (aCons (mC (.str [116, 97, 107, 101])) (aCons (mC (.bl true)) (aCons (mC (.str [33])) aNil)))) aNil)))) sNil) b_l_piece_by_5)
noncomputable def b_l_piece_by_3 : S := (sCons (sIf (tAnd (tV (mOp opEq (mV 3) (mC (.int 1)))) (tV (mOp opEq (mOp opMod (mV 4) (mC (.int 3))) (mC (.int 0))))) (sRet (mTup (aCons (mC (.str [46])) (aCons (mTup (aCons (mC (.str [116, 97, 107, 101])) (aCons (mC (.bl false)) (aCons (mC (.str [])) aNil)))) aNil)))) sNil) b_l_piece_by_4)
noncomputable def b_l_piece_by_2 : S := (sCons (sIf (tV (mOp opEq (mV 3) (mC (.int 0)))) (sRet (mCall f_l_set_by (aCons (mV 4) (aCons (mV 1) aNil)))) sNil) b_l_piece_by_3)
noncomputable def b_l_piece_by_1 : S := (sCons (sSet 4 (mOp opDiv (mV 0) (mC (.int 5)))) b_l_piece_by_2)
noncomputable def b_l_piece_by  : S :=
  (sCons (sSet 3 (mOp opMod (mV 0) (mC (.int 5)))) b_l_piece_by_1)
noncomputable def f_l_piece_by : List D → R D := fun ds => (run 6 b_l_piece_by ds).nox
/-- _law_bracketed(_law_piece, _law_way); 0 _law_piece, 1 _law_way, 2 _law_many -/
noncomputable def b_l_bracketed  : S :=
  (sCons (sSet 2 (mOp opIx (mLst (aCons (mC (.int 0)) (aCons (mC (.int 0)) (aCons (mC (.int 0)) (aCons (mC (.int 0)) (aCons (mC (.int 0)) (aCons (mC (.int 1)) (aCons (mC (.int 1)) (aCons (mC (.int 2)) aNil))))))))) (mV 1)))
    (sRet (mTup (aCons (mOp opAdd (mOp opAdd (mOp opMul (mC (.str [40])) (mV 2)) (mOp opIx (mV 0) (mC (.int 0)))) (mOp opMul (mC (.str [41])) (mV 2))) (aCons (mOp opIx (mV 0) (mC (.int 1))) aNil)))))
noncomputable def f_l_bracketed : List D → R D := fun ds => (run 3 b_l_bracketed ds).nox
/-- _law_repeated_by(_law_piece, _law_way); 0 _law_piece, 1 _law_way, 2 _law_sign, 3 _law_kind -/
noncomputable def b_l_repeated_by  : S :=
  (sCons (sIf (tV (mOp opGt (mV 1) (mC (.int 3)))) (sRet (mV 0)) sNil)
    (sCons (sSet 2 (mOp opIx (mLst (aCons (mC (.str [42])) (aCons (mC (.str [42, 33])) (aCons (mC (.str [63])) (aCons (mC (.str [63, 33])) aNil))))) (mV 1)))
    (sCons (sSet 3 (mIf (tV (mOp opLt (mV 1) (mC (.int 2)))) (mC (.str [109, 97, 110, 121])) (mC (.str [109, 97, 121, 98, 101]))))
    (sRet (mTup (aCons (mOp opAdd (mOp opIx (mV 0) (mC (.int 0))) (mV 2)) (aCons (mTup (aCons (mV 3) (aCons (mOp opIx (mV 0) (mC (.int 1))) (aCons (mOp opEq (mOp opMod (mV 1) (mC (.int 2))) (mC (.int 0))) aNil)))) aNil)))))))
noncomputable def f_l_repeated_by : List D → R D := fun ds => (run 4 b_l_repeated_by ds).nox
/-- _law_row_tree(_law_pieces); 0 _law_pieces -/
noncomputable def b_l_row_tree  : S :=
  (sCons (sIf (tV (mOp opEq (mB bLen (mV 0)) (mC (.int 1)))) (sRet (mOp opIx (mV 0) (mC (.int 0)))) sNil)
    (sRet (mTup (aCons (mC (.str [114, 111, 119])) (aCons (mB bTup (mV 0)) aNil)))))
noncomputable def f_l_row_tree : List D → R D := fun ds => (run 1 b_l_row_tree ds).nox
/-- _law_long_right(_law_many, _law_three); 0 _law_many, 1 _law_three, 2 _law_signs, 3 _law_k, 4 _law_told, 5 _law_sign -/
noncomputable def b_l_long_right  : S :=
  (sCons (sSet 2 (mB (joinD []) (mLc 3 (iR1 (mV 0)) tYes (mOp opIx (mV 1) (mOp opMod (mV 3) (mC (.int 3)))))))
    (sCons (sSet 4 (mB (joinD []) (mLc 5 (iSeq (mV 2)) tYes (mOp opAdd (mC (.str [126])) (mV 5)))))
    (sRet (mCall (f_l_alike 200) (aCons (mCall f_p_read (aCons (mV 4) aNil)) (aCons (mTup (aCons (mC (.str [114, 111, 119])) (aCons (mB bTup (mLc 5 (iSeq (mV 2)) tYes (mTup (aCons (mC (.str [116, 97, 107, 101])) (aCons (mC (.bl true)) (aCons (mV 5) aNil)))))) aNil))) aNil))))))
noncomputable def f_l_long_right : List D → R D := fun ds => (run 6 b_l_long_right ds).nox
/-- law(_law_script); 0 _law_script, 1 _law_told, 2 _law_parts, 3 _law_pieces, 4 _law_is_free, 5 _law_cell, 6 _law_way, 7 _law_piece, 8 _law_due, 9 _law_first_cell -/
noncomputable def c_l_law_1 : S := (sIf (tV (mOp opEq (mOp opMod (mV 5) (mC (.int 7))) (mC (.int 6)))) (sCons (sSet 1 (mOp opAdd (mV 1) (mC (.str [124]))))
    (sCons (sEx (mApp (mV 2) (mFz (mCall f_l_row_tree (aCons (mV 3) aNil)))))
    (sCons (sOwnL 3 aNil)
    (sSet 4 (mC (.bl true)))))) (sCons (sSet 6 (mOp opMod (mOp opDiv (mV 5) (mC (.int 7))) (mC (.int 8))))
    (sCons (sSet 7 (mCall f_l_piece_by (aCons (mOp opDiv (mV 5) (mC (.int 3584))) (aCons (mOp opEq (mV 1) (mC (.str []))) (aCons (mV 4) aNil)))))
    (sCons (sSet 7 (mCall f_l_bracketed (aCons (mCall f_l_repeated_by (aCons (mCall f_l_bracketed (aCons (mV 7) (aCons (mOp opMod (mOp opDiv (mV 5) (mC (.int 56))) (mC (.int 8))) aNil))) (aCons (mV 6) aNil))) (aCons (mOp opMod (mOp opDiv (mV 5) (mC (.int 448))) (mC (.int 8))) aNil))))
    (sCons (sSet 1 (mOp opAdd (mV 1) (mOp opIx (mV 7) (mC (.int 0)))))
    (sCons (sEx (mApp (mV 3) (mOp opIx (mV 7) (mC (.int 1)))))
    (sSet 4 (mOr (mOp opGt (mV 6) (mC (.int 3))) (mOr (mOp opEq (mOp opMod (mV 6) (mC (.int 2))) (mC (.int 1))) (mOp opGt (mOp opMod (mOp opDiv (mV 5) (mC (.int 448))) (mC (.int 8))) (mC (.int 4))))))))))))
noncomputable def b_l_law_10 : S := (sRet (mOr (mOp opNe (mOp opMod (mV 9) (mC (.int 8))) (mC (.int 5))) (mCall f_l_long_right (aCons (mOp opAdd (mC (.int 2)) (mOp opMod (mOp opDiv (mV 9) (mC (.int 8))) (mC (.int 998)))) (aCons (mCall f_l_three_by (aCons (mOp opDiv (mV 9) (mC (.int 8))) aNil)) aNil)))))
noncomputable def b_l_law_9 : S := (sCons (sSet 9 (mCall f_l_cell_at (aCons (mV 0) (aCons (mC (.int 0)) aNil)))) b_l_law_10)
noncomputable def b_l_law_8 : S := (sCons (sIf (tNot (tT (mCall (f_l_alike 200) (aCons (mCall f_p_read (aCons (mV 1) aNil)) (aCons (mV 8) aNil))))) (sRet (mC (.bl false))) sNil) b_l_law_9)
noncomputable def b_l_law_7 : S := (sCons (sIf (tV (mOp opGt (mB bLen (mV 2)) (mC (.int 1)))) (sSet 8 (mTup (aCons (mC (.str [112, 105, 99, 107])) (aCons (mB bTup (mV 2)) aNil)))) sNil) b_l_law_8)
noncomputable def b_l_law_6 : S := (sCons (sSet 8 (mOp opIx (mV 2) (mC (.int 0)))) b_l_law_7)
noncomputable def b_l_law_5 : S := (sCons (sEx (mApp (mV 2) (mFz (mCall f_l_row_tree (aCons (mV 3) aNil))))) b_l_law_6)
noncomputable def b_l_law_4 : S := (sCons (sFor 5 (iSeq (mSl (mV 0) poN (poS (mC (.int 45))))) c_l_law_1) b_l_law_5)
noncomputable def b_l_law_3 : S := (sCons (sSet 4 (mC (.bl true))) b_l_law_4)
noncomputable def b_l_law_2 : S := (sCons (sOwnL 3 aNil) b_l_law_3)
noncomputable def b_l_law_1 : S := (sCons (sOwnL 2 aNil) b_l_law_2)
noncomputable def b_l_law  : S :=
  (sCons (sSet 1 (mC (.str []))) b_l_law_1)
noncomputable def f_l_law : List D → R D := fun ds => (run 10 b_l_law ds).nox
end Bd
end
section
namespace Mt
open Mini Bd
def cellAt (ns : List Int) (k : Nat) : Int := ns.getD k 0
theorem cell_at (ns : List Int) (k : Nat) : f_l_cell_at [.scr ns, .int k] = .ok (.int (cellAt ns k)) := by
  by_cases hk : k < ns.length
  · simp [f_l_cell_at, run_eq, b_l_cell_at, hk, pos, cellAt]
  · simp [f_l_cell_at, run_eq, b_l_cell_at, hk, pos, cellAt]
theorem cell_i (ns : List Int) (i : Int) (k : Nat) (h : i = (k : Int)) : f_l_cell_at [.scr ns, .int i] = .ok (.int (cellAt ns k)) := by subst h; exact cell_at ns k
def tbl : List Nat := [32, 33, 34, 35, 36, 38, 39, 40, 41, 42, 43, 44, 45, 46, 47, 48, 49, 50, 51, 52, 53, 54, 55, 56, 57, 58, 59, 60, 61, 62, 63, 64, 65, 66, 67, 68, 69, 70, 71, 72, 73, 74, 75, 76, 77, 78, 79, 80, 81, 82, 83, 84, 85, 86, 87, 88, 89, 90, 91, 92, 93, 94, 95, 96, 97, 98, 99, 100, 101, 102, 103, 104, 105, 106, 107, 108, 109, 110, 111, 112, 113, 114, 115, 116, 117, 118, 119, 120, 121, 122, 123, 124, 125, 126, 10, 9]
theorem tbl_len : tbl.length = 96 := by decide
def sg (c : Int) : Nat := at0 tbl (c % 96).toNat
theorem sign_by (c : Int) : f_l_sign_by [.int c] = .ok (.str [sg c]) := by
  have e := opIx_str [] tbl (c % 96) (by omega) (by rw [tbl_len]; omega) (by rw [tbl_len]; decide)
  rw [show tbl = [32, 33, 34, 35, 36, 38, 39, 40, 41, 42, 43, 44, 45, 46, 47, 48, 49, 50, 51, 52, 53, 54, 55, 56, 57, 58, 59, 60, 61, 62, 63, 64, 65, 66, 67, 68, 69, 70, 71, 72, 73, 74, 75, 76, 77, 78, 79, 80, 81, 82, 83, 84, 85, 86, 87, 88, 89, 90, 91, 92, 93, 94, 95, 96] ++ [97, 98, 99, 100, 101, 102, 103, 104, 105, 106, 107, 108, 109, 110, 111, 112, 113, 114, 115, 116, 117, 118, 119, 120, 121, 122, 123, 124, 125, 126, 10, 9] from rfl] at e
  simp only [List.cons_append, List.nil_append] at e
  simp [f_l_sign_by, run_eq, b_l_sign_by, e]
  rfl
theorem three_by (c : Int) : f_l_three_by [.int c] = .ok (.str [sg c, sg (c + 31), sg (c + 62)]) := by
  simp [f_l_three_by, run_eq, b_l_three_by, sign_by]
/-! the trees -/
inductive Tr where
  | take (b : Bool) (z : List Nat) | row (ps : List Tr) | pick (ps : List Tr) | maybe (t : Tr) (g : Bool) | many (t : Tr) (g : Bool)
mutual
def td : Tr → D
  | .take b z => .tup [.str [116, 97, 107, 101], .bl b, .str z]
  | .row ps => .tup [.str [114, 111, 119], .tup (tdL ps)]
  | .pick ps => .tup [.str [112, 105, 99, 107], .tup (tdL ps)]
  | .maybe t g => .tup [.str [109, 97, 121, 98, 101], td t, .bl g]
  | .many t g => .tup [.str [109, 97, 110, 121], td t, .bl g]
def tdL : List Tr → List D
  | [] => []
  | t :: ts => td t :: tdL ts
end
theorem tdL_eq : ∀ ps : List Tr, tdL ps = ps.map td
  | [] => rfl
  | t :: ts => by rw [tdL, tdL_eq ts]; rfl
theorem td_take (b : Bool) (z : List Nat) : td (.take b z) = .tup [.str [116, 97, 107, 101], .bl b, .str z] := by rw [td]
theorem td_row (ps : List Tr) : td (.row ps) = .tup [.str [114, 111, 119], .tup (ps.map td)] := by rw [td, tdL_eq]
theorem td_pick (ps : List Tr) : td (.pick ps) = .tup [.str [112, 105, 99, 107], .tup (ps.map td)] := by rw [td, tdL_eq]
theorem td_maybe (t : Tr) (g : Bool) : td (.maybe t g) = .tup [.str [109, 97, 121, 98, 101], td t, .bl g] := by rw [td]
theorem td_many (t : Tr) (g : Bool) : td (.many t g) = .tup [.str [109, 97, 110, 121], td t, .bl g] := by rw [td]
mutual
def bare : Tr → Bool
  | .take _ _ => false
  | .row ps => bareA ps
  | .pick ps => bareE ps
  | .maybe _ _ => true
  | .many _ _ => true
def bareA : List Tr → Bool
  | [] => true
  | t :: ts => bare t && bareA ts
def bareE : List Tr → Bool
  | [] => false
  | t :: ts => bare t || bareE ts
end
theorem bareA_eq : ∀ ps : List Tr, bareA ps = (ps.map bare).all id
  | [] => rfl
  | t :: ts => by rw [bareA, bareA_eq ts]; rfl
theorem bareE_eq : ∀ ps : List Tr, bareE ps = (ps.map bare).any id
  | [] => rfl
  | t :: ts => by rw [bareE, bareE_eq ts]; rfl
mutual
/-- the count that the builder keeps -/
def sz : Tr → Int
  | .take _ _ => 1
  | .row ps => szL ps
  | .pick ps => szL ps + ps.length - 1
  | .maybe t _ => sz t + 1
  | .many t _ => sz t + 1
def szL : List Tr → Int
  | [] => 0
  | t :: ts => sz t + szL ts
end
theorem szL_eq : ∀ ps : List Tr, szL ps = (ps.map sz).sum
  | [] => rfl
  | t :: ts => by rw [szL, szL_eq ts]; rfl
mutual
/-- how deep -/
def hi : Tr → Nat
  | .take _ _ => 1
  | .row ps => hiL ps + 1
  | .pick ps => hiL ps + 1
  | .maybe t _ => hi t + 1
  | .many t _ => hi t + 1
def hiL : List Tr → Nat
  | [] => 0
  | t :: ts => max (hi t) (hiL ts)
end
theorem hi_mem {ps : List Tr} {t : Tr} (h : t ∈ ps) : hi t ≤ hiL ps := by
  induction ps with
  | nil => exact absurd h (List.not_mem_nil)
  | cons x xs ih =>
    rw [hiL]
    rcases List.mem_cons.mp h with rfl | h
    · omega
    · have := ih h; omega
theorem hiL_le {ps : List Tr} {n : Nat} (h : ∀ t ∈ ps, hi t ≤ n) : hiL ps ≤ n := by
  induction ps with
  | nil => rw [hiL]; omega
  | cons x xs ih =>
    rw [hiL]
    have := h x List.mem_cons_self
    have := ih fun t ht => h t (List.mem_cons_of_mem _ ht)
    omega
theorem maxI_hi : ∀ (x : Tr) (ps : List Tr), maxI ((x :: ps).map fun t => (hi t : Int)) = (hiL (x :: ps) : Int)
  | x, [] => by simp [maxI, hiL]
  | x, y :: ps => by
    have := maxI_hi y ps
    rw [List.map_cons] at this
    have e : hiL (x :: y :: ps) = max (hi x) (hiL (y :: ps)) := by rw [hiL]
    rw [List.map_cons, List.map_cons, maxI, this, e]
    omega
mutual
/-- how many nodes -/
def nd : Tr → Nat
  | .take _ _ => 1
  | .row ps => ndL ps + 1
  | .pick ps => ndL ps + 1
  | .maybe t _ => nd t + 1
  | .many t _ => nd t + 1
def ndL : List Tr → Nat
  | [] => 0
  | t :: ts => nd t + ndL ts
end
theorem ndL_app (a b : List Tr) : ndL (a ++ b) = ndL a + ndL b := by
  induction a with
  | nil => rw [List.nil_append, ndL]; omega
  | cons x xs ih => rw [List.cons_append, ndL, ndL, ih]; omega
mutual
/-- well made: the signs of a take, what many holds, no row of one, no pick of less than two -/
def wf : Tr → Bool
  | .take _ z => decide (z.length ≤ 100) && z.all fun c => decide (c ∈ tbl)
  | .row ps => decide (ps.length ≠ 1 ∧ ps.length ≤ 5000) && wfL ps
  | .pick ps => decide (2 ≤ ps.length ∧ ps.length ≤ 5000) && wfL ps
  | .maybe t _ => wf t
  | .many t _ => wf t && !bare t
def wfL : List Tr → Bool
  | [] => true
  | t :: ts => wf t && wfL ts
end
theorem wfL_eq : ∀ ps : List Tr, wfL ps = ps.all wf
  | [] => rfl
  | t :: ts => by rw [wfL, wfL_eq ts]; rfl
theorem sz_nn_aux : ∀ n (t : Tr), hi t ≤ n → wf t = true → 0 ≤ sz t := by
  have aux : ∀ (P : Tr → Prop) (ps : List Tr), (∀ t ∈ ps, P t) → (∀ t ∈ ps, P t → 0 ≤ sz t) → 0 ≤ szL ps := by
    intro P ps h1 h2
    induction ps with
    | nil => rw [szL]; omega
    | cons x xs ih =>
      rw [szL]
      have := h2 x List.mem_cons_self (h1 x List.mem_cons_self)
      have := ih (fun t ht => h1 t (List.mem_cons_of_mem _ ht)) (fun t ht => h2 t (List.mem_cons_of_mem _ ht))
      omega
  intro n
  induction n with
  | zero => intro t h; cases t <;> simp [hi] at h
  | succ n ih =>
    intro t h hw
    cases t with
    | take b z => rw [sz]; omega
    | row ps =>
      rw [hi] at h; rw [wf, wfL_eq, Bool.and_eq_true, List.all_eq_true] at hw; rw [sz]
      exact aux (fun _ => True) ps (fun _ _ => trivial) fun t ht _ => ih t (by have := hi_mem ht; omega) (hw.2 t ht)
    | pick ps =>
      rw [hi] at h; rw [wf, wfL_eq, Bool.and_eq_true, decide_eq_true_eq, List.all_eq_true] at hw; rw [sz]
      have : 0 ≤ szL ps := aux (fun _ => True) ps (fun _ _ => trivial) fun t ht _ => ih t (by have := hi_mem ht; omega) (hw.2 t ht)
      have := hw.1.1
      omega
    | maybe t g => rw [hi] at h; rw [wf] at hw; rw [sz]; have := ih t (by omega) hw; omega
    | many t g => rw [hi] at h; rw [wf, Bool.and_eq_true] at hw; rw [sz]; have := ih t (by omega) hw.1; omega
theorem sz_nn {t : Tr} (h : wf t = true) : 0 ≤ sz t := sz_nn_aux _ t (Nat.le_refl _) h
/-- a row of the builder's stack -/
def entD (t : Tr) : D := .tup [td t, .bl (bare t), .int (sz t), .int (hi t)]
theorem sg_mem (c : Int) : sg c ∈ tbl := by
  have h1 : (c % 96).toNat < tbl.length := by rw [tbl_len]; omega
  unfold sg at0
  rw [List.getD_eq_getElem?_getD, List.getElem?_eq_getElem h1]
  exact List.getElem_mem h1
theorem at0_mem {z : List Nat} {k : Nat} (h : k < z.length) : at0 z k ∈ z := by
  unfold at0
  rw [List.getD_eq_getElem?_getD, List.getElem?_eq_getElem h]
  exact List.getElem_mem h
/-- three signs -/
def isThree (z : List Nat) : Prop := z.length = 3 ∧ ∀ c ∈ z, c ∈ tbl
theorem three_is (c : Int) : isThree [sg c, sg (c + 31), sg (c + 62)] := ⟨rfl, by
  intro x hx
  simp at hx
  rcases hx with rfl | rfl | rfl <;> exact sg_mem _⟩
theorem cut_hi {α : Type} (xs : List α) (n : Nat) : cut xs none (some (n : Int)) = xs.take n := by
  have h0 : ¬ ((n : Int) < 0) := by omega
  unfold cut six
  simp [h0]
theorem cut_lo {α : Type} (xs : List α) (n : Nat) (h : n ≤ xs.length) : cut xs (some (n : Int)) none = xs.drop n := by
  have h0 : ¬ ((n : Int) < 0) := by omega
  unfold cut six
  simp [h0, Nat.min_eq_left h]
  try (rw [List.take_of_length_le]; simp)
theorem cut_last {α : Type} (xs : List α) (h : 0 < xs.length) : cut xs none (some (-1)) = xs.dropLast := by
  unfold cut six
  simp
  rw [List.dropLast_eq_take]
  congr 1
  omega
theorem pos_last (n : Nat) : pos (n + 1) (-1) = some n := by unfold pos; simp; omega
theorem maxI_eq (ps : List Tr) (h : ps ≠ []) : ∃ x xs, ps = x :: xs ∧ maxI ((hi x : Int) :: xs.map fun t => (hi t : Int)) = (hiL ps : Int) := by
  cases ps with
  | nil => exact absurd rfl h
  | cons x xs => exact ⟨x, xs, rfl, maxI_hi x xs⟩
theorem bMax_hi (ps : List Tr) (h : ps ≠ []) : bMax (.lst (ps.map fun t => .int (hi t : Int))) = some (.int (hiL ps : Int)) := by
  obtain ⟨x, xs, rfl, e⟩ := maxI_eq ps h
  simp only [bMax, ints_map fun t => (hi t : Int)]
  rw [List.map_cons]
  simp only [e]
/-- what the comprehensions over the rows of the stack give -/
theorem lc_ent {i : Nat} {j : Int} {e : Env} (v : Tr → D) (ps : List Tr) (h : ∀ t ∈ ps, (mOp opIx (mV i) (mC (.int j))) (e.set i (some (entD t))) [] = .ok (v t, [])) : lcF i tYes (mOp opIx (mV i) (mC (.int j))) e (ps.map entD) [] = .ok (ps.map v, []) :=
  lcF_idx entD v ps fun t ht => ⟨h t ht, rfl⟩
mutual
theorem frz_free (n : Nat) (s : Sto) : ∀ d : D, free d = true → frz n s d = some d
  | .own k, h => by simp [free] at h
  | .tup ds, h => by
    have := frzL_free n s ds (by simpa [free] using h)
    simp [frz, this]
  | .non, _ => by simp [frz]
  | .bl _, _ => by simp [frz]
  | .int _, _ => by simp [frz]
  | .str _, _ => by simp [frz]
  | .lst _, _ => by simp [frz]
  | .scr _, _ => by simp [frz]
  | .dic _, _ => by simp [frz]
theorem frzL_free (n : Nat) (s : Sto) : ∀ ds : List D, freeL ds = true → frzL n s ds = some ds
  | [], _ => by simp [frzL]
  | d :: ds, h => by
    rw [freeL, Bool.and_eq_true] at h
    simp [frzL, frz_free n s d h.1, frzL_free n s ds h.2]
end
mutual
theorem free_td : ∀ t : Tr, free (td t) = true
  | .take b z => by rw [td]; rfl
  | .row ps => by rw [td]; simp [free_tdL ps]
  | .pick ps => by rw [td]; simp [free_tdL ps]
  | .maybe t g => by rw [td]; simp [free_td t]
  | .many t g => by rw [td]; simp [free_td t]
theorem free_tdL : ∀ ts : List Tr, freeL (tdL ts) = true
  | [] => rfl
  | t :: ts => by rw [tdL]; simp [free_td t, free_tdL ts]
end
theorem frz_td (n : Nat) (s : Sto) (t : Tr) : frz n s (td t) = some (td t) := frz_free n s _ (free_td t)
theorem wf_row {ps : List Tr} (h : wf (.row ps) = true) : (ps.length ≠ 1 ∧ ps.length ≤ 5000) ∧ ∀ t ∈ ps, wf t = true := by
  rw [wf, Bool.and_eq_true, decide_eq_true_eq, wfL_eq, List.all_eq_true] at h; exact h
theorem wf_pick {ps : List Tr} (h : wf (.pick ps) = true) : (2 ≤ ps.length ∧ ps.length ≤ 5000) ∧ ∀ t ∈ ps, wf t = true := by
  rw [wf, Bool.and_eq_true, decide_eq_true_eq, wfL_eq, List.all_eq_true] at h; exact h
theorem wf_take {b : Bool} {z : List Nat} (h : wf (.take b z) = true) : z.length ≤ 100 ∧ ∀ c ∈ z, c ∈ tbl := by
  rw [wf] at h; simpa using h
theorem wf_many {t : Tr} {g : Bool} (h : wf (.many t g) = true) : wf t = true ∧ bare t = false := by
  rw [wf] at h; simpa using h
theorem wf_maybe {t : Tr} {g : Bool} (h : wf (.maybe t g) = true) : wf t = true := by
  rw [wf] at h; exact h
theorem mk_row {ps : List Tr} (h1 : ps.length ≠ 1) (h2 : ps.length ≤ 5000) (h : wfL ps = true) : wf (.row ps) = true := by
  rw [wf, h, decide_eq_true ⟨h1, h2⟩]; rfl
theorem mk_pick {ps : List Tr} (h1 : 2 ≤ ps.length) (h2 : ps.length ≤ 5000) (h : wfL ps = true) : wf (.pick ps) = true := by
  rw [wf, h, decide_eq_true ⟨h1, h2⟩]; rfl
/-- the comprehension of a def over the parts -/
theorem lc_parts {i : Nat} {m : M} {e : Env} (v : Tr → D) (hv : ∀ t, free (v t) = true) (ps : List Tr) (h : ∀ t ∈ ps, m (e.set i (some (td t))) [] = .ok (v t, [])) : lcF i tYes m e (ps.map td) [] = .ok (ps.map v, []) :=
  lcF_idx td v ps fun t ht => ⟨h t ht, rfl⟩
theorem p_bare : ∀ (n : Nat) (t : Tr), hi t ≤ n → wf t = true → f_p_bare n [td t] = .ok (.bl (bare t))
  | 0, t, h, _ => by cases t <;> rw [hi] at h <;> omega
  | n + 1, .take b z, _, _ => by simp [f_p_bare, run_eq, b_p_bare, td_take, pos, bare]
  | n + 1, .maybe t g, _, _ => by simp [f_p_bare, run_eq, b_p_bare, td_maybe, pos, bare]
  | n + 1, .many t g, _, _ => by simp [f_p_bare, run_eq, b_p_bare, td_many, pos, bare]
  | n + 1, .row ps, h, hw => by
    rw [hi] at h
    have hw := wf_row hw
    have q := lc_parts (i := 1) (m := (mCall (f_p_bare n) (aCons (mV 1) aNil))) (e := [some (td (.row ps)), none]) (fun t => .bl (bare t)) (fun _ => rfl) ps fun t ht => by
      have := p_bare n t (by have := hi_mem ht; omega) (hw.2 t ht)
      simp [this]
    have b1 : bAll (.lst (ps.map fun t => .bl (bare t))) = some (.bl (bareA ps)) := by simp only [bAll, bls_map bare, bareA_eq]; rfl
    rw [td_row] at q
    simp [f_p_bare, run_eq, b_p_bare, td_row, pos, bare, q, b1, show ps.length ≤ 16777216 by omega, -bAll]
  | n + 1, .pick ps, h, hw => by
    rw [hi] at h
    have hw := wf_pick hw
    have q := lc_parts (i := 1) (m := (mCall (f_p_bare n) (aCons (mV 1) aNil))) (e := [some (td (.pick ps)), none]) (fun t => .bl (bare t)) (fun _ => rfl) ps fun t ht => by
      have := p_bare n t (by have := hi_mem ht; omega) (hw.2 t ht)
      simp [this]
    have b1 : bAny (.lst (ps.map fun t => .bl (bare t))) = some (.bl (bareE ps)) := by simp only [bAny, bls_map bare, bareE_eq]; rfl
    rw [td_pick] at q
    simp [f_p_bare, run_eq, b_p_bare, td_pick, pos, bare, q, b1, show ps.length ≤ 16777216 by omega, -bAny]
/-! how a tree is written -/
def spc : List Nat := [40, 41, 124, 42, 63, 46, 91, 93, 126, 33]
def esc1 (c : Nat) : List Nat := if c ∈ spc then [126, c] else [c]
def esc : List Nat → List Nat
  | [] => []
  | c :: z => esc1 c ++ esc z
theorem esc_len (z : List Nat) : (esc z).length ≤ 2 * z.length := by
  induction z with
  | nil => simp [esc]
  | cons c z ih =>
    rw [esc, List.length_append, List.length_cons]
    have : (esc1 c).length ≤ 2 := by unfold esc1; split <;> simp
    omega
def mk (b : Bool) (z : List Nat) : List Nat := if b = true then (if z.length = 1 then esc z else 91 :: (esc z ++ [93])) else if z = [] then [46] else 91 :: 33 :: (esc z ++ [93])
def isRP : Tr → Bool
  | .row _ => true
  | .pick _ => true
  | _ => false
def isP : Tr → Bool
  | .pick _ => true
  | _ => false
def isNT : Tr → Bool
  | .take _ _ => false
  | _ => true
mutual
def shw : Tr → List Nat
  | .take b z => mk b z
  | .row ps => (shwR ps).flatten
  | .pick ps => glue [124] (shwP ps)
  | .maybe t g => (if isNT t = true then 40 :: (shw t ++ [41]) else shw t) ++ (if g = true then [63] else [63, 33])
  | .many t g => (if isNT t = true then 40 :: (shw t ++ [41]) else shw t) ++ (if g = true then [42] else [42, 33])
def shwR : List Tr → List (List Nat)
  | [] => []
  | t :: ts => (if isRP t = true then 40 :: (shw t ++ [41]) else shw t) :: shwR ts
def shwP : List Tr → List (List Nat)
  | [] => []
  | t :: ts => (if isP t = true then 40 :: (shw t ++ [41]) else shw t) :: shwP ts
end
def par (k : Tr → Bool) (t : Tr) : List Nat := if k t = true then 40 :: (shw t ++ [41]) else shw t
theorem shwR_eq : ∀ ps : List Tr, shwR ps = ps.map (par isRP)
  | [] => by rw [shwR]; rfl
  | t :: ts => by rw [shwR, shwR_eq ts]; rfl
theorem shwP_eq : ∀ ps : List Tr, shwP ps = ps.map (par isP)
  | [] => by rw [shwP]; rfl
  | t :: ts => by rw [shwP, shwP_eq ts]; rfl
theorem par_len (k : Tr → Bool) (t : Tr) : (par k t).length ≤ (shw t).length + 2 := by unfold par; split <;> simp
theorem glue_len (s : Nat) : ∀ xs : List (List Nat), (glue [s] xs).length ≤ (xs.map (·.length)).sum + xs.length
  | [] => by simp [glue]
  | [x] => by simp [glue]
  | x :: y :: r => by
    have := glue_len s (y :: r)
    rw [glue]
    simp at this ⊢
    omega
theorem sum_len (f : Tr → List Nat) (c : Nat) : ∀ ps : List Tr, (∀ t ∈ ps, (f t).length + c ≤ 210 * nd t) → ((ps.map f).map (·.length)).sum + ps.length * c ≤ 210 * ndL ps
  | [], _ => by simp
  | t :: ts, h => by
    have h1 := h t List.mem_cons_self
    have h2 := sum_len f c ts fun x hx => h x (List.mem_cons_of_mem _ hx)
    rw [ndL, List.map_cons, List.map_cons, List.sum_cons, List.length_cons, Nat.succ_mul]
    omega
theorem shw_len_aux : ∀ n t, hi t ≤ n → wf t = true → (shw t).length + 3 ≤ 210 * nd t := by
  intro n
  induction n with
  | zero => intro t h; cases t <;> rw [hi] at h <;> omega
  | succ n ih =>
    intro t h hw
    cases t with
    | take b z =>
      have h1 := (wf_take hw).1
      have h2 := esc_len z
      rw [shw, nd]; unfold mk
      split
      · split
        · omega
        · simp; omega
      · split
        · simp
        · simp; omega
    | row ps =>
      rw [hi] at h
      have hs := sum_len (par isRP) 1 ps fun t ht => by
        have h1 := ih t (by have := hi_mem ht; omega) ((wf_row hw).2 t ht)
        have h2 := par_len isRP t
        omega
      have hs' : ((ps.map (par isRP)).map List.length).sum + ps.length * 1 ≤ 210 * ndL ps := hs
      rw [shw, nd, shwR_eq, List.length_flatten]
      omega
    | pick ps =>
      rw [hi] at h
      have hs := sum_len (par isP) 1 ps fun t ht => by
        have h1 := ih t (by have := hi_mem ht; omega) ((wf_pick hw).2 t ht)
        have h2 := par_len isP t
        omega
      have hg := glue_len 124 (ps.map (par isP))
      rw [shw, nd, shwP_eq]
      rw [List.length_map] at hg
      omega
    | maybe t g =>
      rw [hi] at h
      have h1 := ih t (by omega) (wf_maybe hw)
      rw [shw, nd, List.length_append]
      have : (if isNT t = true then 40 :: (shw t ++ [41]) else shw t).length ≤ (shw t).length + 2 := by split <;> simp
      have : (if g = true then [63] else [63, 33]).length ≤ 2 := by split <;> simp
      omega
    | many t g =>
      rw [hi] at h
      have h1 := ih t (by omega) (wf_many hw).1
      rw [shw, nd, List.length_append]
      have : (if isNT t = true then 40 :: (shw t ++ [41]) else shw t).length ≤ (shw t).length + 2 := by split <;> simp
      have : (if g = true then [42] else [42, 33]).length ≤ 2 := by split <;> simp
      omega
theorem shw_len {t : Tr} (h : wf t = true) : (shw t).length + 3 ≤ 210 * nd t := shw_len_aux _ t (Nat.le_refl _) h
theorem join_of (sep : List Nat) (f : Tr → List Nat) (ps : List Tr) (h : ((ps.map f).map (·.length)).sum + ps.length * sep.length ≤ 16777216) : joinD sep (.lst (ps.map fun t => .str (f t))) = some (.str (glue sep (ps.map f))) := by
  simp only [joinD, strs_map f, Option.bind_some, List.length_map, line_eq]
  rw [if_pos h]
def tg : Tr → List Nat
  | .take _ _ => [116, 97, 107, 101]
  | .row _ => [114, 111, 119]
  | .pick _ => [112, 105, 99, 107]
  | .maybe _ _ => [109, 97, 121, 98, 101]
  | .many _ _ => [109, 97, 110, 121]
theorem rz_td (s : Sto) (t : Tr) : rz s (td t) = td t := by cases t <;> simp [td]
theorem ix_td0 (s : Sto) (t : Tr) : opIx s (td t) (.int 0) = some (.str (tg t)) := by cases t <;> simp [td, tg, pos]
theorem inT_RP (s : Sto) (t : Tr) : opInB s (.str (tg t)) (.tup [.str [114, 111, 119], .str [112, 105, 99, 107]]) = some (isRP t) := by
  rw [opInB_tup s _ _ rfl rfl]; cases t <;> simp [tg, isRP, inD, deq]
theorem inT_P (s : Sto) (t : Tr) : opInB s (.str (tg t)) (.tup [.str [112, 105, 99, 107]]) = some (isP t) := by
  rw [opInB_tup s _ _ rfl rfl]; cases t <;> simp [tg, isP, inD, deq]
theorem inT_NT (s : Sto) (t : Tr) : opInB s (.str (tg t)) (.tup [.str [114, 111, 119], .str [112, 105, 99, 107], .str [109, 97, 110, 121], .str [109, 97, 121, 98, 101]]) = some (isNT t) := by
  rw [opInB_tup s _ _ rfl rfl]; cases t <;> simp [tg, isNT, inD, deq]
theorem inL_RP (s : Sto) (t : Tr) : opInB s (.str (tg t)) (.lst [.str [114, 111, 119], .str [112, 105, 99, 107]]) = some (isRP t) := by
  rw [opInB_lst s _ _ rfl rfl]; cases t <;> simp [tg, isRP, inD, deq]
theorem inL_P (s : Sto) (t : Tr) : opInB s (.str (tg t)) (.lst [.str [112, 105, 99, 107]]) = some (isP t) := by
  rw [opInB_lst s _ _ rfl rfl]; cases t <;> simp [tg, isP, inD, deq]
theorem inL_NT (s : Sto) (t : Tr) : opInB s (.str (tg t)) (.lst [.str [114, 111, 119], .str [112, 105, 99, 107], .str [109, 97, 110, 121], .str [109, 97, 121, 98, 101]]) = some (isNT t) := by
  rw [opInB_lst s _ _ rfl rfl]; cases t <;> simp [tg, isNT, inD, deq]
mutual
def alk : D → Bool
  | .bl _ => true
  | .str _ => true
  | .tup ds => decide (ds.length ≤ 5000) && alkL ds
  | _ => false
def alkL : List D → Bool
  | [] => true
  | d :: ds => alk d && alkL ds
end
theorem alkL_mem : ∀ {ds : List D}, alkL ds = true → ∀ d ∈ ds, alk d = true
  | [], _, d, h => absurd h (List.not_mem_nil)
  | x :: xs, h, d, hd => by
    rw [alkL, Bool.and_eq_true] at h
    rcases List.mem_cons.mp hd with rfl | hd
    · exact h.1
    · exact alkL_mem h.2 d hd
theorem dep_mem : ∀ {ds : List D}, ∀ d ∈ ds, dep d ≤ depL ds
  | [], d, h => absurd h (List.not_mem_nil)
  | x :: xs, d, hd => by
    rw [depL]
    rcases List.mem_cons.mp hd with rfl | hd
    · omega
    · have := dep_mem d hd; omega
theorem bls_true : ∀ xs : List Nat, bls (xs.map fun _ => .bl true) = some (xs.map fun _ => true)
  | [] => rfl
  | x :: xs => by simp [bls_true xs]
theorem alike_self : ∀ (n : Nat) (d : D), dep d < n → alk d = true → f_l_alike n [d, d] = .ok (.bl true) := by
  intro n
  induction n with
  | zero => intro d h; omega
  | succ n ih =>
    intro d h ha
    cases d with
    | bl b => simp [f_l_alike, run_eq, b_l_alike]
    | str z => simp [f_l_alike, run_eq, b_l_alike]
    | tup ds =>
      rw [alk, Bool.and_eq_true, decide_eq_true_eq] at ha
      rw [dep] at h
      have hl : lcF 2 tYes (mCall (f_l_alike n) (aCons (mOp opIx (mV 0) (mV 2)) (aCons (mOp opIx (mV 1) (mV 2)) aNil))) [some (.tup ds), some (.tup ds), none] (rng 0 ds.length) [] = .ok ((List.range ds.length).map fun _ => .bl true, []) := by
        unfold rng
        refine lcF_idx _ _ _ fun k hk => ⟨?_, rfl⟩
        have hk2 : k < ds.length := List.mem_range.mp hk
        have hm : ds[k] ∈ ds := List.getElem_mem hk2
        have := ih ds[k] (by have := dep_mem _ hm; omega) (alkL_mem ha.2 _ hm)
        simp [pos_nat hk2, hk2, this]
      have hb : bAll (.lst ((List.range ds.length).map fun _ => .bl true)) = some (.bl true) := by
        simp only [bAll, bls_true]
        simp
      simp [f_l_alike, run_eq, b_l_alike, show (ds.length : Int) < 4611686018427387904 by omega, rng_len, show ds.length ≤ 16777216 by omega, hl, hb, -bAll, -List.map_const']
    | _ => simp [alk] at ha
theorem td_alk_aux : ∀ (k : Nat) (t : Tr), hi t ≤ k → wf t = true → alk (td t) = true ∧ dep (td t) ≤ 2 * hi t := by
  have aux : ∀ (ps : List Tr) (m : Nat), (∀ t ∈ ps, alk (td t) = true ∧ dep (td t) ≤ m) → alkL (ps.map td) = true ∧ depL (ps.map td) ≤ m := by
    intro ps m
    induction ps with
    | nil => intro _; exact ⟨rfl, Nat.zero_le _⟩
    | cons x xs ih =>
      intro h
      have h1 := h x List.mem_cons_self
      have h2 := ih fun t ht => h t (List.mem_cons_of_mem _ ht)
      rw [List.map_cons, alkL, depL, h1.1, h2.1]
      exact ⟨rfl, by omega⟩
  intro k
  induction k with
  | zero => intro t h; cases t <;> rw [hi] at h <;> omega
  | succ k ih =>
    intro t h hw
    cases t with
    | take b z => rw [td_take, hi]; simp [alk, alkL, dep, depL]
    | row ps =>
      rw [hi] at h
      have ha := aux ps (2 * hiL ps) fun t ht => by
        have h1 := ih t (by have := hi_mem ht; omega) ((wf_row hw).2 t ht)
        have := hi_mem ht
        exact ⟨h1.1, by omega⟩
      rw [td_row, hi]
      refine ⟨by simp [alk, alkL, ha.1, (wf_row hw).1.2], ?_⟩
      have := ha.2
      simp only [dep, depL]
      omega
    | pick ps =>
      rw [hi] at h
      have ha := aux ps (2 * hiL ps) fun t ht => by
        have h1 := ih t (by have := hi_mem ht; omega) ((wf_pick hw).2 t ht)
        have := hi_mem ht
        exact ⟨h1.1, by omega⟩
      rw [td_pick, hi]
      refine ⟨by simp [alk, alkL, ha.1, (wf_pick hw).1.2], ?_⟩
      have := ha.2
      simp only [dep, depL]
      omega
    | maybe t g =>
      rw [hi] at h
      have ha := ih t (by omega) (wf_maybe hw)
      rw [td_maybe, hi]
      refine ⟨by simp [alk, alkL, ha.1], ?_⟩
      simp only [dep, depL]
      omega
    | many t g =>
      rw [hi] at h
      have ha := ih t (by omega) (wf_many hw).1
      rw [td_many, hi]
      refine ⟨by simp [alk, alkL, ha.1], ?_⟩
      simp only [dep, depL]
      omega
theorem alike_td (t : Tr) (h : hi t ≤ 99) (hw : wf t = true) : f_l_alike 200 [td t, td t] = .ok (.bl true) := by
  have h2 := td_alk_aux _ t (Nat.le_refl _) hw
  exact alike_self 200 (td t) (by omega) h2.1
/-! reading -/
def rw' (P : List Tr) : Tr := match P with
  | [t] => t
  | _ => .row P
def pk' (R : List Tr) : Tr := match R with
  | [t] => t
  | _ => .pick R
theorem row_of (P : List Tr) : f_p_row_of [.lst (P.map td)] = .ok (td (rw' P)) := by
  match P with
  | [] => simp [f_p_row_of, run_eq, b_p_row_of, rw', td_row]
  | [t] => simp [f_p_row_of, run_eq, b_p_row_of, rw', pos, frz_td]
  | t :: u :: r =>
    have h : ¬ ((r.length : Int) + 1 + 1 = 1) := by omega
    have e := frzL_free 0 [] (r.map td) (by rw [← tdL_eq]; exact free_tdL r)
    simp [f_p_row_of, run_eq, b_p_row_of, rw', td_row, h, frz_td, e]
theorem pick_of (P : List Tr) : f_p_pick_of [.lst (P.map td)] = .ok (td (pk' P)) := by
  match P with
  | [] => simp [f_p_pick_of, run_eq, b_p_pick_of, pk', td_pick]
  | [t] => simp [f_p_pick_of, run_eq, b_p_pick_of, pk', pos, frz_td]
  | t :: u :: r =>
    have h : ¬ ((r.length : Int) + 1 + 1 = 1) := by omega
    have e := frzL_free 0 [] (r.map td) (by rw [← tdL_eq]; exact free_tdL r)
    simp [f_p_pick_of, run_eq, b_p_pick_of, pk', td_pick, h, frz_td, e]
def frD (f : List Tr × List Tr) : D := .tup [.lst (f.1.map td), .lst (f.2.map td)]
theorem ix_last (s : Sto) (xs : List D) (d : D) : opIx s (.lst (xs ++ [d])) (.int (-1)) = some d := by
  rw [opIx_lst]; simp [pos_last]
theorem ix_last2 (s : Sto) (xs : List D) (d d2 : D) : opIx s (.lst (xs ++ [d, d2])) (.int (-2)) = some d := by
  rw [opIx_lst]
  have : pos (xs ++ [d, d2]).length (-2) = some xs.length := by unfold pos; simp; omega
  rw [this]; simp
theorem cut_last1 {α : Type} (xs : List α) (d : α) : cut (xs ++ [d]) none (some (-1)) = xs := by
  rw [cut_last _ (by simp)]; simp
theorem cut_last2 {α : Type} (xs : List α) (d d2 : α) : cut (xs ++ [d, d2]) none (some (-2)) = xs := by
  unfold cut six
  simp
  rw [show (-2 + ((xs.length : Int) + 2)).toNat = xs.length by omega]
  simp
theorem ix_at (s : Sto) (pre : List Nat) (c : Nat) (post : List Nat) (h : (pre ++ c :: post).length ≤ 16777216) : opIx s (.str (pre ++ c :: post)) (.int (pre.length : Int)) = some (.str [c]) := by
  rw [opIx_str_nat s _ _ (by simp) h]
  simp [at0]
theorem cut_at (pre post : List Nat) (k : Nat) : cut (pre ++ post) (some (pre.length : Int)) (some ((pre.length : Int) + (k : Int))) = post.take k := by
  have h0 : ¬ ((pre.length : Int) < 0) := by omega
  have h1 : ¬ ((pre.length : Int) + (k : Int) < 0) := by omega
  unfold cut six
  simp [h0, h1]
  by_cases h : k ≤ post.length
  · congr 1; omega
  · omega
theorem closed_of (base : List (List Tr × List Tr)) (R0 P0 R P : List Tr) (h1 : base.length ≤ 1000) (h2 : P0.length ≤ 10000) (h3 : R.length ≤ 10000) :
    f_p_closed [.lst ((base ++ [(R0, P0), (R, P)]).map frD)] = .ok (.lst ((base ++ [(R0, P0 ++ [pk' (R ++ [rw' P])])]).map frD)) := by
  have e1 := fun s => ix_last s (base.map frD ++ [frD (R0, P0)]) (frD (R, P))
  have e2 := fun s => ix_last2 s (base.map frD) (frD (R0, P0)) (frD (R, P))
  have e3 := cut_last2 (base.map frD) (frD (R0, P0)) (frD (R, P))
  have e4 := row_of P
  have e5 := pick_of (R ++ [rw' P])
  have e0 : (base ++ [(R0, P0), (R, P)]).map frD = base.map frD ++ [frD (R0, P0), frD (R, P)] := by simp
  have e9 : base.map frD ++ [frD (R0, P0)] ++ [frD (R, P)] = base.map frD ++ [frD (R0, P0), frD (R, P)] := by simp
  rw [e9] at e1
  rw [e0]
  have hlen : ¬ ((base.map frD ++ [frD (R0, P0), frD (R, P)]).length : Int) = 1 := by simp; omega
  have f1 : frD (R0, P0) = .tup [.lst (R0.map td), .lst (P0.map td)] := rfl
  have f2 : frD (R, P) = .tup [.lst (R.map td), .lst (P.map td)] := rfl
  have f3 : (base ++ [(R0, P0 ++ [pk' (R ++ [rw' P])])]).map frD = base.map frD ++ [.tup [.lst (R0.map td), .lst (P0.map td ++ [td (pk' (R ++ [rw' P]))])]] := by simp [frD]
  rw [f3]
  simp only [List.map_append, List.map_cons, List.map_nil] at e5
  generalize hX : base.map frD ++ [frD (R0, P0), frD (R, P)] = X at *
  simp [f_p_closed, run_eq, b_p_closed, hlen, e1, e2, e3, f1, f2, pos, e4, e5, show base.length ≤ 16777215 by omega, show P0.length ≤ 16777215 by omega, show R.length ≤ 16777215 by omega, -opIx_lst]
theorem opened_of (fs : List (List Tr × List Tr)) (h : fs.length ≤ 30) : f_p_opened [.lst (fs.map frD)] = .ok (.lst ((fs ++ [([], [])]).map frD)) := by
  simp [f_p_opened, run_eq, b_p_opened, show ¬ (30 : Int) < fs.length by omega, show fs.length ≤ 16777215 by omega, frD]
end Mt
end
section
namespace Mt
open Mini Bd
noncomputable abbrev LP (p : List Nat) (fs : List (List Tr × List Tr)) (r : Bool) (a : Int) (x4 x5 x6 x7 x8 x9 : Option D) : R (O × Sto) :=
  sWhile t_p_read_1 c_p_read_1 [some (.str p), some (.lst (fs.map frD)), some (.bl r), some (.int a), x4, x5, x6, x7, x8, x9] []
/-- the loop goes on from one state to another -/
def Go (p : List Nat) (fs : List (List Tr × List Tr)) (r : Bool) (a : Nat) (fs' : List (List Tr × List Tr)) (r' : Bool) (a' : Nat) : Prop :=
  ∀ x4 x5 x6 x7 x8 x9, ∃ y4 y5 y6 y7 y8 y9, LP p fs r a x4 x5 x6 x7 x8 x9 = LP p fs' r' a' y4 y5 y6 y7 y8 y9
theorem Go.trans {p : List Nat} {f1 f2 f3 : List (List Tr × List Tr)} {r1 r2 r3 : Bool} {a1 a2 a3 : Nat} (h : Go p f1 r1 a1 f2 r2 a2) (h2 : Go p f2 r2 a2 f3 r3 a3) : Go p f1 r1 a1 f3 r3 a3 := by
  intro x4 x5 x6 x7 x8 x9
  obtain ⟨y4, y5, y6, y7, y8, y9, e⟩ := h x4 x5 x6 x7 x8 x9
  obtain ⟨z4, z5, z6, z7, z8, z9, e2⟩ := h2 y4 y5 y6 y7 y8 y9
  exact ⟨z4, z5, z6, z7, z8, z9, e.trans e2⟩
theorem Go.refl (p : List Nat) (f : List (List Tr × List Tr)) (r : Bool) (a : Nat) : Go p f r a f r a := fun x4 x5 x6 x7 x8 x9 => ⟨x4, x5, x6, x7, x8, x9, rfl⟩
theorem test_t (p : List Nat) (F : D) (r : Bool) (a : Nat) (x4 x5 x6 x7 x8 x9 : Option D) (h : a < p.length) (hp : p.length ≤ 16777216) :
    t_p_read_1 [some (.str p), some F, some (.bl r), some (.int (a : Int)), x4, x5, x6, x7, x8, x9] [] = .ok (true, []) := by
  simp [t_p_read_1, hp, h]
theorem test_f (p : List Nat) (F : D) (r : Bool) (x4 x5 x6 x7 x8 x9 : Option D) (hp : p.length ≤ 16777216) :
    t_p_read_1 [some (.str p), some F, some (.bl r), some (.int (p.length : Int)), x4, x5, x6, x7, x8, x9] [] = .ok (false, []) := by
  simp [t_p_read_1, hp]
theorem go_of {p : List Nat} {fs fs' : List (List Tr × List Tr)} {r r' : Bool} {a a' : Nat} (ha : a < p.length) (hp : p.length ≤ 16777216)
    (h : ∀ x4 x5 x6 x7 x8 x9, ∃ y4 y5 y6 y7 y8 y9, c_p_read_1 [some (.str p), some (.lst (fs.map frD)), some (.bl r), some (.int (a : Int)), x4, x5, x6, x7, x8, x9] [] =
      .ok (.nx [some (.str p), some (.lst (fs'.map frD)), some (.bl r'), some (.int (a' : Int)), y4, y5, y6, y7, y8, y9], [])) : Go p fs r a fs' r' a' := by
  intro x4 x5 x6 x7 x8 x9
  obtain ⟨y4, y5, y6, y7, y8, y9, e⟩ := h x4 x5 x6 x7 x8 x9
  exact ⟨y4, y5, y6, y7, y8, y9, sWhile_true (test_t p _ r a x4 x5 x6 x7 x8 x9 ha hp) (.inl e)⟩
theorem fr_last (base : List (List Tr × List Tr)) (R P : List Tr) (s : Sto) : opIx s (.lst ((base ++ [(R, P)]).map frD)) (.int (-1)) = some (.tup [.lst (R.map td), .lst (P.map td)]) := by
  rw [List.map_append, List.map_cons, List.map_nil, ix_last]; rfl
theorem fr_cut (base : List (List Tr × List Tr)) (R P : List Tr) : cut ((base ++ [(R, P)]).map frD) none (some (-1)) = base.map frD := by
  rw [List.map_append, List.map_cons, List.map_nil, cut_last1]
theorem step_open (pre post : List Nat) (base : List (List Tr × List Tr)) (R P : List Tr) (r : Bool) (hp : (pre ++ 40 :: post).length ≤ 16777216) (hf : base.length ≤ 29) :
    Go (pre ++ 40 :: post) (base ++ [(R, P)]) r pre.length (base ++ [(R, P)] ++ [([], [])]) false (pre.length + 1) := by
  refine go_of (by simp) hp fun x4 x5 x6 x7 x8 x9 => ⟨some (.str [40]), some (.lst (R.map td)), some (.lst (P.map td)), x7, x8, x9, ?_⟩
  have e1 := ix_at [] pre 40 post hp
  have e2 := opened_of (base ++ [(R, P)]) (by simp; omega)
  have e3 := fr_last base R P []
  generalize (base ++ [(R, P)]).map frD = F at *
  generalize (base ++ [(R, P)] ++ [([], [])]).map frD = F2 at *
  generalize pre ++ 40 :: post = p at *
  simp [c_p_read_1, e1, e2, e3, pos, -opIx_lst]
theorem step_close (pre post : List Nat) (base : List (List Tr × List Tr)) (R0 P0 R P : List Tr) (r : Bool) (hp : (pre ++ 41 :: post).length ≤ 16777216) (h1 : base.length ≤ 1000) (h2 : P0.length ≤ 10000) (h3 : R.length ≤ 10000) :
    Go (pre ++ 41 :: post) (base ++ [(R0, P0)] ++ [(R, P)]) r pre.length (base ++ [(R0, P0 ++ [pk' (R ++ [rw' P])])]) true (pre.length + 1) := by
  refine go_of (by simp) hp fun x4 x5 x6 x7 x8 x9 => ⟨some (.str [41]), some (.lst (R.map td)), some (.lst (P.map td)), x7, x8, x9, ?_⟩
  have e1 := ix_at [] pre 41 post hp
  have e2 := closed_of base R0 P0 R P h1 h2 h3
  have e3 := fr_last (base ++ [(R0, P0)]) R P []
  have e4 : base ++ [(R0, P0)] ++ [(R, P)] = base ++ [(R0, P0), (R, P)] := by simp
  rw [e4] at e3 ⊢
  generalize (base ++ [(R0, P0), (R, P)]).map frD = F at *
  generalize (base ++ [(R0, P0 ++ [pk' (R ++ [rw' P])])]).map frD = F2 at *
  generalize pre ++ 41 :: post = p at *
  simp [c_p_read_1, e1, e2, e3, pos, -opIx_lst]
theorem step_bar (pre post : List Nat) (base : List (List Tr × List Tr)) (R P : List Tr) (r : Bool) (hp : (pre ++ 124 :: post).length ≤ 16777216) (h1 : base.length ≤ 1000) (h3 : R.length ≤ 10000) :
    Go (pre ++ 124 :: post) (base ++ [(R, P)]) r pre.length (base ++ [(R ++ [rw' P], [])]) false (pre.length + 1) := by
  refine go_of (by simp) hp fun x4 x5 x6 x7 x8 x9 => ⟨some (.str [124]), some (.lst (R.map td)), some (.lst (P.map td)), x7, x8, x9, ?_⟩
  have e1 := ix_at [] pre 124 post hp
  have e2 := row_of P
  have e3 := fr_last base R P []
  have e4 := fr_cut base R P
  have e5 : (base ++ [(R ++ [rw' P], [])]).map frD = base.map frD ++ [.tup [.lst (R.map td ++ [td (rw' P)]), .lst []]] := by simp [frD]
  rw [e5]
  generalize (base ++ [(R, P)]).map frD = F at *
  generalize pre ++ 124 :: post = p at *
  simp [c_p_read_1, e1, e2, e3, e4, pos, show base.length ≤ 16777215 by omega, show R.length ≤ 16777215 by omega, -opIx_lst]
theorem step_maybe (pre post : List Nat) (base : List (List Tr × List Tr)) (R P : List Tr) (t : Tr) (hp : (pre ++ 63 :: post).length ≤ 16777216) (h1 : base.length ≤ 1000) (h3 : P.length ≤ 10000) (hn : post.take 1 ≠ [33]) :
    Go (pre ++ 63 :: post) (base ++ [(R, P ++ [t])]) true pre.length (base ++ [(R, P ++ [Tr.maybe t true])]) false (pre.length + 1) := by
  refine go_of (by simp) hp fun x4 x5 x6 x7 x8 x9 => ⟨some (.str [63]), some (.lst (R.map td)), some (.lst ((P ++ [t]).map td)), some (.bl true), some (td (.maybe t true)), x9, ?_⟩
  have e1 := ix_at [] pre 63 post hp
  have e3 := fr_last base R (P ++ [t]) []
  have e4 := fr_cut base R (P ++ [t])
  have e5 : (base ++ [(R, P ++ [Tr.maybe t true])]).map frD = base.map frD ++ [.tup [.lst (R.map td), .lst (P.map td ++ [td (.maybe t true)])]] := by simp [frD]
  have e6 : f_p_repeated [.str [63], .bl true, .lst ((P ++ [t]).map td), .bl true] = .ok (td (.maybe t true)) := by
    have := ix_last [] (P.map td) (td t)
    simp [f_p_repeated, run_eq, b_p_repeated, this, td_maybe, frz_td, -opIx_lst]
  have e7 : cut ((P ++ [t]).map td) none (some (-1)) = P.map td := by rw [List.map_append, List.map_cons, List.map_nil, cut_last1]
  have e8 := cut_at (pre ++ [63]) post 1
  have e9 : ((pre ++ [63]).length : Int) = (pre.length : Int) + 1 := by simp
  rw [e9, show pre ++ [63] ++ post = pre ++ 63 :: post by simp, show (pre.length : Int) + 1 + ((1 : Nat) : Int) = (pre.length : Int) + 2 by omega] at e8
  rw [e5]
  generalize (base ++ [(R, P ++ [t])]).map frD = F at *
  generalize (P ++ [t]).map td = G at *
  generalize pre ++ 63 :: post = p at *
  generalize post.take 1 = q at *
  simp [c_p_read_1, e1, e3, e4, e6, e7, e8, hn, hp, pos, show base.length ≤ 16777215 by omega, show P.length ≤ 16777215 by omega, -opIx_lst]
theorem step_maybe' (pre post : List Nat) (base : List (List Tr × List Tr)) (R P : List Tr) (t : Tr) (hp : (pre ++ 63 :: 33 :: post).length ≤ 16777216) (h1 : base.length ≤ 1000) (h3 : P.length ≤ 10000) :
    Go (pre ++ 63 :: 33 :: post) (base ++ [(R, P ++ [t])]) true pre.length (base ++ [(R, P ++ [Tr.maybe t false])]) false (pre.length + 2) := by
  refine go_of (by simp) hp fun x4 x5 x6 x7 x8 x9 => ⟨some (.str [63]), some (.lst (R.map td)), some (.lst ((P ++ [t]).map td)), some (.bl false), some (td (.maybe t false)), x9, ?_⟩
  have e1 := ix_at [] pre 63 (33 :: post) hp
  have e3 := fr_last base R (P ++ [t]) []
  have e4 := fr_cut base R (P ++ [t])
  have e5 : (base ++ [(R, P ++ [Tr.maybe t false])]).map frD = base.map frD ++ [.tup [.lst (R.map td), .lst (P.map td ++ [td (.maybe t false)])]] := by simp [frD]
  have e6 : f_p_repeated [.str [63], .bl true, .lst ((P ++ [t]).map td), .bl false] = .ok (td (.maybe t false)) := by
    have := ix_last [] (P.map td) (td t)
    simp [f_p_repeated, run_eq, b_p_repeated, this, td_maybe, frz_td, -opIx_lst]
  have e7 : cut ((P ++ [t]).map td) none (some (-1)) = P.map td := by rw [List.map_append, List.map_cons, List.map_nil, cut_last1]
  have e8 := cut_at (pre ++ [63]) (33 :: post) 1
  have e9 : ((pre ++ [63]).length : Int) = (pre.length : Int) + 1 := by simp
  rw [e9, show pre ++ [63] ++ 33 :: post = pre ++ 63 :: 33 :: post by simp, show (pre.length : Int) + 1 + ((1 : Nat) : Int) = (pre.length : Int) + 2 by omega] at e8
  have ea : (pre.length : Int) + 1 + 1 = ((pre.length + 2 : Nat) : Int) := by omega
  rw [e5]
  generalize (base ++ [(R, P ++ [t])]).map frD = F at *
  generalize (P ++ [t]).map td = G at *
  generalize pre ++ 63 :: 33 :: post = p at *
  simp [c_p_read_1, e1, e3, e4, e6, e7, e8, hp, pos, show base.length ≤ 16777215 by omega, show P.length ≤ 16777215 by omega, -opIx_lst]
  omega
theorem step_many (pre post : List Nat) (base : List (List Tr × List Tr)) (R P : List Tr) (t : Tr) (hp : (pre ++ 42 :: post).length ≤ 16777216) (h1 : base.length ≤ 1000) (h3 : P.length ≤ 10000) (hn : post.take 1 ≠ [33]) (hb : f_p_bare 200 [td t] = .ok (.bl false)) :
    Go (pre ++ 42 :: post) (base ++ [(R, P ++ [t])]) true pre.length (base ++ [(R, P ++ [Tr.many t true])]) false (pre.length + 1) := by
  refine go_of (by simp) hp fun x4 x5 x6 x7 x8 x9 => ⟨some (.str [42]), some (.lst (R.map td)), some (.lst ((P ++ [t]).map td)), some (.bl true), some (td (.many t true)), x9, ?_⟩
  have e1 := ix_at [] pre 42 post hp
  have e3 := fr_last base R (P ++ [t]) []
  have e4 := fr_cut base R (P ++ [t])
  have e5 : (base ++ [(R, P ++ [Tr.many t true])]).map frD = base.map frD ++ [.tup [.lst (R.map td), .lst (P.map td ++ [td (.many t true)])]] := by simp [frD]
  have e6 : f_p_repeated [.str [42], .bl true, .lst ((P ++ [t]).map td), .bl true] = .ok (td (.many t true)) := by
    have := ix_last [] (P.map td) (td t)
    simp [f_p_repeated, run_eq, b_p_repeated, this, td_many, frz_td, hb, -opIx_lst]
  have e7 : cut ((P ++ [t]).map td) none (some (-1)) = P.map td := by rw [List.map_append, List.map_cons, List.map_nil, cut_last1]
  have e8 := cut_at (pre ++ [42]) post 1
  have e9 : ((pre ++ [42]).length : Int) = (pre.length : Int) + 1 := by simp
  rw [e9, show pre ++ [42] ++ post = pre ++ 42 :: post by simp, show (pre.length : Int) + 1 + ((1 : Nat) : Int) = (pre.length : Int) + 2 by omega] at e8
  rw [e5]
  generalize (base ++ [(R, P ++ [t])]).map frD = F at *
  generalize (P ++ [t]).map td = G at *
  generalize pre ++ 42 :: post = p at *
  generalize post.take 1 = q at *
  simp [c_p_read_1, e1, e3, e4, e6, e7, e8, hn, hp, pos, show base.length ≤ 16777215 by omega, show P.length ≤ 16777215 by omega, -opIx_lst]
theorem step_many' (pre post : List Nat) (base : List (List Tr × List Tr)) (R P : List Tr) (t : Tr) (hp : (pre ++ 42 :: 33 :: post).length ≤ 16777216) (h1 : base.length ≤ 1000) (h3 : P.length ≤ 10000) (hb : f_p_bare 200 [td t] = .ok (.bl false)) :
    Go (pre ++ 42 :: 33 :: post) (base ++ [(R, P ++ [t])]) true pre.length (base ++ [(R, P ++ [Tr.many t false])]) false (pre.length + 2) := by
  refine go_of (by simp) hp fun x4 x5 x6 x7 x8 x9 => ⟨some (.str [42]), some (.lst (R.map td)), some (.lst ((P ++ [t]).map td)), some (.bl false), some (td (.many t false)), x9, ?_⟩
  have e1 := ix_at [] pre 42 (33 :: post) hp
  have e3 := fr_last base R (P ++ [t]) []
  have e4 := fr_cut base R (P ++ [t])
  have e5 : (base ++ [(R, P ++ [Tr.many t false])]).map frD = base.map frD ++ [.tup [.lst (R.map td), .lst (P.map td ++ [td (.many t false)])]] := by simp [frD]
  have e6 : f_p_repeated [.str [42], .bl true, .lst ((P ++ [t]).map td), .bl false] = .ok (td (.many t false)) := by
    have := ix_last [] (P.map td) (td t)
    simp [f_p_repeated, run_eq, b_p_repeated, this, td_many, frz_td, hb, -opIx_lst]
  have e7 : cut ((P ++ [t]).map td) none (some (-1)) = P.map td := by rw [List.map_append, List.map_cons, List.map_nil, cut_last1]
  have e8 := cut_at (pre ++ [42]) (33 :: post) 1
  have e9 : ((pre ++ [42]).length : Int) = (pre.length : Int) + 1 := by simp
  rw [e9, show pre ++ [42] ++ 33 :: post = pre ++ 42 :: 33 :: post by simp, show (pre.length : Int) + 1 + ((1 : Nat) : Int) = (pre.length : Int) + 2 by omega] at e8
  rw [e5]
  generalize (base ++ [(R, P ++ [t])]).map frD = F at *
  generalize (P ++ [t]).map td = G at *
  generalize pre ++ 42 :: 33 :: post = p at *
  simp [c_p_read_1, e1, e3, e4, e6, e7, e8, hp, pos, show base.length ≤ 16777215 by omega, show P.length ≤ 16777215 by omega, -opIx_lst]
  omega
theorem step_piece (pre post : List Nat) (c : Nat) (base : List (List Tr × List Tr)) (R P : List Tr) (r : Bool) (t : Tr) (n : Nat) (hp : (pre ++ c :: post).length ≤ 16777216) (h1 : base.length ≤ 1000) (h3 : P.length ≤ 10000)
    (hc : c ≠ 40 ∧ c ≠ 41 ∧ c ≠ 124 ∧ c ≠ 42 ∧ c ≠ 63) (he : f_p_piece_at [.str (pre ++ c :: post), .int (pre.length : Int)] = .ok (.tup [td t, .int ((pre.length : Int) + (n : Int))])) :
    Go (pre ++ c :: post) (base ++ [(R, P)]) r pre.length (base ++ [(R, P ++ [t])]) true (pre.length + n) := by
  refine go_of (by simp) hp fun x4 x5 x6 x7 x8 x9 => ⟨some (.str [c]), some (.lst (R.map td)), some (.lst (P.map td)), x7, x8, some (.tup [td t, .int ((pre.length : Int) + (n : Int))]), ?_⟩
  obtain ⟨c1, c2, c3, c4, c5⟩ := hc
  have e1 := ix_at [] pre c post hp
  have e3 := fr_last base R P []
  have e4 := fr_cut base R P
  have e5 : (base ++ [(R, P ++ [t])]).map frD = base.map frD ++ [.tup [.lst (R.map td), .lst (P.map td ++ [td t])]] := by simp [frD]
  rw [e5]
  generalize (base ++ [(R, P)]).map frD = F at *
  generalize pre ++ c :: post = p at *
  simp [c_p_read_1, e1, e3, e4, he, c1, c2, c3, c4, c5, pos, show base.length ≤ 16777215 by omega, show P.length ≤ 16777215 by omega, -opIx_lst]
theorem len_snoc (pre : List Nat) (c : Nat) : ((pre ++ [c]).length : Int) = (pre.length : Int) + 1 := by simp
theorem cut_one (pre post : List Nat) (c : Nat) : cut (pre ++ c :: post) (some (pre.length : Int)) (some ((pre.length : Int) + 1)) = [c] := cut_at pre (c :: post) 1
theorem set_loop : ∀ (z pre post s : List Nat) (i : Option D) (p : List Nat), p = pre ++ (esc z ++ 93 :: post) → p.length ≤ 16777216 → s.length + z.length ≤ 16777216 →
    sWhile t_p_set_at_1 c_p_set_at_1 [some (.str p), some (.int (pre.length : Int)), i, some (.str s)] [] = .ok (.nx [some (.str p), some (.int ((pre.length + (esc z).length : Nat) : Int)), i, some (.str (s ++ z))], [])
  | [], pre, post, s, i, p, hp, hl, hs => by
    have e := cut_one pre post 93
    rw [esc, List.nil_append] at hp
    rw [← hp] at e
    rw [sWhile_false (s' := []) (by simp [t_p_set_at_1, hl, e])]
    simp [esc]
  | c :: z, pre, post, s, i, p, hp, hl, hs => by
    rw [List.length_cons] at hs
    by_cases hc : c ∈ spc
    · have he : esc (c :: z) = 126 :: c :: esc z := by rw [esc]; unfold esc1; rw [if_pos hc]; rfl
      rw [he] at hp
      have ih := set_loop z (pre ++ [126, c]) post (s ++ [c]) i p (by rw [hp]; simp) hl (by simp; omega)
      have e := cut_one pre (c :: (esc z ++ 93 :: post)) 126
      have e2 := ix_at [] (pre ++ [126]) c (esc z ++ 93 :: post) (by rw [show pre ++ [126] ++ c :: (esc z ++ 93 :: post) = p by rw [hp]; simp]; exact hl)
      rw [show pre ++ [126] ++ c :: (esc z ++ 93 :: post) = p by rw [hp]; simp] at e2
      rw [show pre ++ 126 :: c :: (esc z ++ 93 :: post) = p by rw [hp]; simp] at e
      have hlt : ¬ ((p.length : Int) ≤ (pre.length : Int) + 1) := by rw [hp]; simp; omega
      rw [len_snoc] at e2
      rw [sWhile_true (s' := []) (e' := [some (.str p), some (.int ((pre ++ [126, c]).length : Int)), i, some (.str (s ++ [c]))]) (s2 := []) (by simp [t_p_set_at_1, hl, e]) (.inl ?_), ih, he]
      · simp; omega
      · simp [c_p_set_at_1, hl, e, e2, hlt, show s.length + 1 ≤ 16777216 by omega]
        omega
    · have he : esc (c :: z) = c :: esc z := by rw [esc]; unfold esc1; rw [if_neg hc]; rfl
      rw [he] at hp
      have ih := set_loop z (pre ++ [c]) post (s ++ [c]) i p (by rw [hp]; simp) hl (by simp; omega)
      have e := cut_one pre (esc z ++ 93 :: post) c
      have e2 := ix_at [] pre c (esc z ++ 93 :: post) (by rw [show pre ++ c :: (esc z ++ 93 :: post) = p by rw [hp]; simp]; exact hl)
      rw [show pre ++ c :: (esc z ++ 93 :: post) = p by rw [hp]; simp] at e2 e
      have hlt : ¬ ((p.length : Int) ≤ (pre.length : Int)) := by rw [hp]; simp; omega
      have h93 : c ≠ 93 := fun h => hc (by rw [h]; decide)
      have h126 : c ≠ 126 := fun h => hc (by rw [h]; decide)
      rw [sWhile_true (s' := []) (e' := [some (.str p), some (.int ((pre ++ [c]).length : Int)), i, some (.str (s ++ [c]))]) (s2 := []) (by simp [t_p_set_at_1, hl, e, h93]) (.inl ?_), ih, he]
      · simp; omega
      · simp [c_p_set_at_1, hl, e, e2, hlt, h126, show s.length + 1 ≤ 16777216 by omega]
theorem esc_head (z post : List Nat) : (esc z ++ 93 :: post).take 1 ≠ [33] := by
  cases z with
  | nil => simp [esc]
  | cons c z =>
    rw [esc]; unfold esc1
    split
    · simp
    · rename_i h
      have : c ≠ 33 := fun h2 => h (by rw [h2]; decide)
      simp [this]
/-- a set, from behind its bracket -/
theorem set_at_t (z pre post p : List Nat) (hp : p = pre ++ (esc z ++ 93 :: post)) (hl : p.length ≤ 16777216) (hz : z.length ≤ 1000) :
    f_p_set_at [.str p, .int (pre.length : Int)] = .ok (.tup [td (.take true z), .int ((pre.length : Int) + ((esc z).length : Int) + 1)]) := by
  have e := set_loop z pre post [] (some (.bl true)) p hp hl (by simp; omega)
  have c := cut_at pre (esc z ++ 93 :: post) 1
  rw [← hp] at c
  have hn := esc_head z post
  have c' : cut p (some (pre.length : Int)) (some ((pre.length : Int) + 1)) = (esc z ++ 93 :: post).take 1 := c
  generalize (esc z ++ 93 :: post).take 1 = q at *
  simp [f_p_set_at, run_eq, b_p_set_at, hl, c', hn, e, td_take]
theorem set_at_f (z pre post p : List Nat) (hp : p = pre ++ 33 :: (esc z ++ 93 :: post)) (hl : p.length ≤ 16777216) (hz : z.length ≤ 1000) :
    f_p_set_at [.str p, .int (pre.length : Int)] = .ok (.tup [td (.take false z), .int ((pre.length : Int) + ((esc z).length : Int) + 2)]) := by
  have e := set_loop z (pre ++ [33]) post [] (some (.bl false)) p (by rw [hp]; simp) hl (by simp; omega)
  have c := cut_one pre (esc z ++ 93 :: post) 33
  rw [← hp] at c
  rw [len_snoc] at e
  simp [f_p_set_at, run_eq, b_p_set_at, hl, c, e, td_take]
  omega
/-- a take, as it is written, is read -/
theorem piece_take (b : Bool) (z pre post : List Nat) (hl : (pre ++ (mk b z ++ post)).length ≤ 16777216) (hz : z.length ≤ 1000) :
    ∃ c y, mk b z = c :: y ∧ (c ≠ 40 ∧ c ≠ 41 ∧ c ≠ 124 ∧ c ≠ 42 ∧ c ≠ 63 ∧ c ≠ 33) ∧ f_p_piece_at [.str (pre ++ (mk b z ++ post)), .int (pre.length : Int)] = .ok (.tup [td (.take b z), .int ((pre.length : Int) + ((mk b z).length : Int))]) := by
  generalize hp : pre ++ (mk b z ++ post) = p at *
  cases b with
  | false =>
    by_cases h0 : z = []
    · have hm : mk false z = [46] := by simp [mk, h0]
      rw [hm] at hp ⊢
      have e := ix_at [] pre 46 post (by rw [show pre ++ 46 :: post = p from hp]; exact hl)
      rw [show pre ++ 46 :: post = p from hp] at e
      refine ⟨46, [], rfl, by decide, ?_⟩
      simp [f_p_piece_at, run_eq, b_p_piece_at, e, b_p_piece_at_1, b_p_piece_at_2, b_p_piece_at_3, td_take, h0]
    · have hm : mk false z = 91 :: 33 :: (esc z ++ [93]) := by simp [mk, h0]
      rw [hm] at hp ⊢
      have e := ix_at [] pre 91 (33 :: (esc z ++ [93]) ++ post) (by rw [show pre ++ 91 :: (33 :: (esc z ++ [93]) ++ post) = p by rw [← hp]; simp]; exact hl)
      rw [show pre ++ 91 :: (33 :: (esc z ++ [93]) ++ post) = p by rw [← hp]; simp] at e
      have e2 := set_at_f z (pre ++ [91]) post p (by rw [← hp]; simp) hl hz
      rw [len_snoc, td_take] at e2
      refine ⟨91, _, rfl, by decide, ?_⟩
      simp [f_p_piece_at, run_eq, b_p_piece_at, e, b_p_piece_at_1, b_p_piece_at_2, e2, td_take]
      omega
  | true =>
    by_cases h0 : z.length = 1
    · obtain ⟨c, rfl⟩ := List.length_eq_one_iff.mp h0
      by_cases hc : c ∈ spc
      · have hm : mk true [c] = [126, c] := by simp [mk, esc, esc1, hc]
        rw [hm] at hp ⊢
        have e := ix_at [] pre 126 (c :: post) (by rw [show pre ++ 126 :: c :: post = p from hp]; exact hl)
        have e2 := ix_at [] (pre ++ [126]) c post (by rw [show pre ++ [126] ++ c :: post = p by rw [← hp]; simp]; exact hl)
        rw [show pre ++ 126 :: c :: post = p from hp] at e
        rw [show pre ++ [126] ++ c :: post = p by rw [← hp]; simp, len_snoc] at e2
        have hlt : ¬ ((p.length : Int) ≤ (pre.length : Int) + 1) := by rw [← hp]; simp; omega
        refine ⟨126, [c], rfl, by decide, ?_⟩
        simp [f_p_piece_at, run_eq, b_p_piece_at, e, e2, b_p_piece_at_1, b_p_piece_at_2, b_p_piece_at_3, b_p_piece_at_4, hl, hlt, td_take]
      · have hm : mk true [c] = [c] := by simp [mk, esc, esc1, hc]
        rw [hm] at hp ⊢
        have e := ix_at [] pre c post (by rw [show pre ++ c :: post = p from hp]; exact hl)
        rw [show pre ++ c :: post = p from hp] at e
        have hn : ∀ k, k ∈ spc → c ≠ k := fun k hk h => hc (by rw [h]; exact hk)
        have n1 := hn 93 (by decide)
        have n2 := hn 91 (by decide)
        have n3 := hn 46 (by decide)
        have n4 := hn 126 (by decide)
        refine ⟨c, [], rfl, ⟨hn _ (by decide), hn _ (by decide), hn _ (by decide), hn _ (by decide), hn _ (by decide), hn _ (by decide)⟩, ?_⟩
        simp [f_p_piece_at, run_eq, b_p_piece_at, e, b_p_piece_at_1, b_p_piece_at_2, b_p_piece_at_3, b_p_piece_at_4, b_p_piece_at_5, n1, n2, n3, n4, td_take]
    · have hm : mk true z = 91 :: (esc z ++ [93]) := by simp [mk, h0]
      rw [hm] at hp ⊢
      have e := ix_at [] pre 91 ((esc z ++ [93]) ++ post) (by rw [show pre ++ 91 :: ((esc z ++ [93]) ++ post) = p by rw [← hp]; simp]; exact hl)
      rw [show pre ++ 91 :: ((esc z ++ [93]) ++ post) = p by rw [← hp]; simp] at e
      have e2 := set_at_t z (pre ++ [91]) post p (by rw [← hp]; simp) hl hz
      rw [len_snoc, td_take] at e2
      refine ⟨91, _, rfl, by decide, ?_⟩
      simp [f_p_piece_at, run_eq, b_p_piece_at, e, b_p_piece_at_1, b_p_piece_at_2, e2, td_take]
      omega
/-- .. and the loop goes over it -/
theorem go_take (b : Bool) (z pre post : List Nat) (base : List (List Tr × List Tr)) (R P : List Tr) (r : Bool) (hl : (pre ++ (mk b z ++ post)).length ≤ 16777216) (hz : z.length ≤ 1000) (h1 : base.length ≤ 1000) (h3 : P.length ≤ 10000) :
    Go (pre ++ (mk b z ++ post)) (base ++ [(R, P)]) r pre.length (base ++ [(R, P ++ [Tr.take b z])]) true (pre.length + (mk b z).length) := by
  obtain ⟨c, y, e, hc, he⟩ := piece_take b z pre post hl hz
  have e2 : pre ++ (mk b z ++ post) = pre ++ c :: (y ++ post) := by rw [e]; rfl
  rw [e2] at he hl ⊢
  exact step_piece pre (y ++ post) c base R P r (.take b z) (mk b z).length hl h1 h3 ⟨hc.1, hc.2.1, hc.2.2.1, hc.2.2.2.1, hc.2.2.2.2.1⟩ he
theorem read_of {p : List Nat} {R P : List Tr} {r : Bool} (hp : p.length ≤ 16777216) (h : Go p [([], [])] false 0 [(R, P)] r p.length) (hR : R.length ≤ 10000) : f_p_read [.str p] = .ok (td (pk' (R ++ [rw' P]))) := by
  obtain ⟨y4, y5, y6, y7, y8, y9, e⟩ := h none none none none none none
  have e2 : LP p [(R, P)] r (p.length : Int) y4 y5 y6 y7 y8 y9 = _ := sWhile_false (test_f p (.lst ([(R, P)].map frD)) r y4 y5 y6 y7 y8 y9 hp)
  rw [e2] at e
  have e4 := row_of P
  have e5 := pick_of (R ++ [rw' P])
  simp only [LP, List.map_cons, List.map_nil, frD] at e
  simp only [List.map_append, List.map_cons, List.map_nil] at e5
  have e : sWhile t_p_read_1 c_p_read_1 [some (.str p), some (.lst [.tup [.lst [], .lst []]]), some (.bl false), some (.int 0), none, none, none, none, none, none] [] = _ := e
  simp [f_p_read, run_eq, b_p_read, b_p_read_1, b_p_read_2, b_p_read_3, e, b_p_read_4, b_p_read_5, pos, e4, e5, frz_td, show R.length ≤ 16777215 by omega]
theorem rw_row {ps : List Tr} (h : ps.length ≠ 1) : rw' ps = .row ps := by
  match ps, h with
  | [], _ => rfl
  | [t], h => exact absurd rfl h
  | _ :: _ :: _, _ => rfl
theorem pk_pick {ps : List Tr} (h : 2 ≤ ps.length) : pk' ps = .pick ps := by
  match ps, h with
  | [], h => simp at h
  | [t], h => simp at h
  | _ :: _ :: _, _ => rfl
end Mt
end
section
namespace Mt
open Mini Bd
/-! flat patterns -/
theorem piece_plain (c : Nat) (pre post : List Nat) (hl : (pre ++ c :: post).length ≤ 16777216) (h1 : c ≠ 93) (h2 : c ≠ 91) (h3 : c ≠ 46) (h4 : c ≠ 126) :
    f_p_piece_at [.str (pre ++ c :: post), .int (pre.length : Int)] = .ok (.tup [td (.take true [c]), .int ((pre.length : Int) + ((1 : Nat) : Int))]) := by
  have e := ix_at [] pre c post hl
  generalize pre ++ c :: post = p at *
  simp [f_p_piece_at, run_eq, b_p_piece_at, e, b_p_piece_at_1, b_p_piece_at_2, b_p_piece_at_3, b_p_piece_at_4, b_p_piece_at_5, h1, h2, h3, h4, td_take]
theorem piece_tilde (c : Nat) (pre post : List Nat) (hl : (pre ++ 126 :: c :: post).length ≤ 16777216) :
    f_p_piece_at [.str (pre ++ 126 :: c :: post), .int (pre.length : Int)] = .ok (.tup [td (.take true [c]), .int ((pre.length : Int) + ((2 : Nat) : Int))]) := by
  generalize hp : pre ++ 126 :: c :: post = p at *
  have e := ix_at [] pre 126 (c :: post) (by rw [hp]; exact hl)
  have e2 := ix_at [] (pre ++ [126]) c post (by rw [show pre ++ [126] ++ c :: post = p by rw [← hp]; simp]; exact hl)
  rw [hp] at e
  rw [show pre ++ [126] ++ c :: post = p by rw [← hp]; simp, len_snoc] at e2
  have hlt : ¬ ((p.length : Int) ≤ (pre.length : Int) + 1) := by rw [← hp]; simp; omega
  simp [f_p_piece_at, run_eq, b_p_piece_at, e, e2, b_p_piece_at_1, b_p_piece_at_2, b_p_piece_at_3, b_p_piece_at_4, hl, hlt, td_take]
def enc1 (q : Bool × Nat) : List Nat := if q.1 = true then [126, q.2] else [q.2]
def enc : List (Bool × Nat) → List Nat
  | [] => []
  | q :: l => enc1 q ++ enc l
theorem enc_app (a b : List (Bool × Nat)) : enc (a ++ b) = enc a ++ enc b := by
  induction a with
  | nil => rfl
  | cons x xs ih => rw [List.cons_append, enc, enc, ih, List.append_assoc]
theorem enc_len (l : List (Bool × Nat)) : (enc l).length ≤ 2 * l.length := by
  induction l with
  | nil => simp [enc]
  | cons q l ih =>
    rw [enc, List.length_append, List.length_cons]
    have : (enc1 q).length ≤ 2 := by unfold enc1; split <;> simp
    omega
theorem enc_loop : ∀ (l : List (Bool × Nat)) (pre post s : List Nat) (i : Option D) (p : List Nat), (∀ q ∈ l, q.1 = false → q.2 ≠ 126 ∧ q.2 ≠ 93) → p = pre ++ (enc l ++ 93 :: post) → p.length ≤ 16777216 → s.length + l.length ≤ 16777216 →
    sWhile t_p_set_at_1 c_p_set_at_1 [some (.str p), some (.int (pre.length : Int)), i, some (.str s)] [] = .ok (.nx [some (.str p), some (.int ((pre.length + (enc l).length : Nat) : Int)), i, some (.str (s ++ l.map (·.2)))], [])
  | [], pre, post, s, i, p, hq, hp, hl, hs => by
    have e := cut_one pre post 93
    rw [enc, List.nil_append] at hp
    rw [← hp] at e
    rw [sWhile_false (s' := []) (by simp [t_p_set_at_1, hl, e])]
    simp [enc]
  | (true, c) :: l, pre, post, s, i, p, hq, hp, hl, hs => by
    rw [List.length_cons] at hs
    have he : enc ((true, c) :: l) = 126 :: c :: enc l := by rw [enc]; rfl
    rw [he] at hp
    have ih := enc_loop l (pre ++ [126, c]) post (s ++ [c]) i p (fun q h => hq q (List.mem_cons_of_mem _ h)) (by rw [hp]; simp) hl (by simp; omega)
    have e := cut_one pre (c :: (enc l ++ 93 :: post)) 126
    have e2 := ix_at [] (pre ++ [126]) c (enc l ++ 93 :: post) (by rw [show pre ++ [126] ++ c :: (enc l ++ 93 :: post) = p by rw [hp]; simp]; exact hl)
    rw [show pre ++ [126] ++ c :: (enc l ++ 93 :: post) = p by rw [hp]; simp] at e2
    rw [show pre ++ 126 :: c :: (enc l ++ 93 :: post) = p by rw [hp]; simp] at e
    have hlt : ¬ ((p.length : Int) ≤ (pre.length : Int) + 1) := by rw [hp]; simp; omega
    rw [len_snoc] at e2
    rw [sWhile_true (s' := []) (e' := [some (.str p), some (.int ((pre ++ [126, c]).length : Int)), i, some (.str (s ++ [c]))]) (s2 := []) (by simp [t_p_set_at_1, hl, e]) (.inl ?_), ih, he]
    · simp; omega
    · simp [c_p_set_at_1, hl, e, e2, hlt, show s.length + 1 ≤ 16777216 by omega]
      omega
  | (false, c) :: l, pre, post, s, i, p, hq, hp, hl, hs => by
    rw [List.length_cons] at hs
    obtain ⟨h126, h93⟩ := hq _ List.mem_cons_self rfl
    have h126 : c ≠ 126 := h126
    have h93 : c ≠ 93 := h93
    have he : enc ((false, c) :: l) = c :: enc l := by rw [enc]; rfl
    rw [he] at hp
    have ih := enc_loop l (pre ++ [c]) post (s ++ [c]) i p (fun q h => hq q (List.mem_cons_of_mem _ h)) (by rw [hp]; simp) hl (by simp; omega)
    have e := cut_one pre (enc l ++ 93 :: post) c
    have e2 := ix_at [] pre c (enc l ++ 93 :: post) (by rw [show pre ++ c :: (enc l ++ 93 :: post) = p by rw [hp]; simp]; exact hl)
    rw [show pre ++ c :: (enc l ++ 93 :: post) = p by rw [hp]; simp] at e2 e
    have hlt : ¬ ((p.length : Int) ≤ (pre.length : Int)) := by rw [hp]; simp; omega
    rw [sWhile_true (s' := []) (e' := [some (.str p), some (.int ((pre ++ [c]).length : Int)), i, some (.str (s ++ [c]))]) (s2 := []) (by simp [t_p_set_at_1, hl, e, h93]) (.inl ?_), ih, he]
    · simp; omega
    · simp [c_p_set_at_1, hl, e, e2, hlt, h126, show s.length + 1 ≤ 16777216 by omega]
/-- a set in any writing -/
theorem piece_set_t (l : List (Bool × Nat)) (pre post : List Nat) (hq : ∀ q ∈ l, q.1 = false → q.2 ≠ 126 ∧ q.2 ≠ 93) (hh : ∀ q r, l = q :: r → q.1 = false → q.2 ≠ 33) (hl : (pre ++ 91 :: (enc l ++ 93 :: post)).length ≤ 16777216) (hz : l.length ≤ 1000) :
    f_p_piece_at [.str (pre ++ 91 :: (enc l ++ 93 :: post)), .int (pre.length : Int)] = .ok (.tup [td (.take true (l.map (·.2))), .int ((pre.length : Int) + (((enc l).length + 2 : Nat) : Int))]) := by
  generalize hp : pre ++ 91 :: (enc l ++ 93 :: post) = p at *
  have e := ix_at [] pre 91 (enc l ++ 93 :: post) (by rw [hp]; exact hl)
  rw [hp] at e
  have lp := enc_loop l (pre ++ [91]) post [] (some (.bl true)) p hq (by rw [← hp]; simp) hl (by simp; omega)
  have hn : (enc l ++ 93 :: post).take 1 ≠ [33] := by
    cases l with
    | nil => simp [enc]
    | cons q r =>
      rw [enc]; unfold enc1
      split
      · simp
      · rename_i h
        have := hh q r rfl (by simpa using h)
        simp [this]
  have c := cut_at (pre ++ [91]) (enc l ++ 93 :: post) 1
  rw [show pre ++ [91] ++ (enc l ++ 93 :: post) = p by rw [← hp]; simp, len_snoc] at c
  have c' : cut p (some ((pre.length : Int) + 1)) (some ((pre.length : Int) + 1 + 1)) = (enc l ++ 93 :: post).take 1 := c
  rw [len_snoc] at lp
  have e2 : f_p_set_at [.str p, .int ((pre.length : Int) + 1)] = .ok (.tup [.tup [.str [116, 97, 107, 101], .bl true, .str (l.map (·.2))], .int ((pre.length : Int) + 1 + ((enc l).length : Int) + 1)]) := by
    generalize (enc l ++ 93 :: post).take 1 = q at *
    simp [f_p_set_at, run_eq, b_p_set_at, hl, c', hn, lp]
  simp [f_p_piece_at, run_eq, b_p_piece_at, e, b_p_piece_at_1, b_p_piece_at_2, e2, td_take]
  omega
theorem piece_set_f (l : List (Bool × Nat)) (pre post : List Nat) (hq : ∀ q ∈ l, q.1 = false → q.2 ≠ 126 ∧ q.2 ≠ 93) (hl : (pre ++ 91 :: 33 :: (enc l ++ 93 :: post)).length ≤ 16777216) (hz : l.length ≤ 1000) :
    f_p_piece_at [.str (pre ++ 91 :: 33 :: (enc l ++ 93 :: post)), .int (pre.length : Int)] = .ok (.tup [td (.take false (l.map (·.2))), .int ((pre.length : Int) + (((enc l).length + 3 : Nat) : Int))]) := by
  generalize hp : pre ++ 91 :: 33 :: (enc l ++ 93 :: post) = p at *
  have e := ix_at [] pre 91 (33 :: (enc l ++ 93 :: post)) (by rw [hp]; exact hl)
  rw [hp] at e
  have lp := enc_loop l (pre ++ [91, 33]) post [] (some (.bl false)) p hq (by rw [← hp]; simp) hl (by simp; omega)
  have c := cut_one (pre ++ [91]) (enc l ++ 93 :: post) 33
  rw [show pre ++ [91] ++ 33 :: (enc l ++ 93 :: post) = p by rw [← hp]; simp, len_snoc] at c
  have e9 : ((pre ++ [91, 33]).length : Int) = (pre.length : Int) + 1 + 1 := by simp; omega
  rw [e9] at lp
  have e2 : f_p_set_at [.str p, .int ((pre.length : Int) + 1)] = .ok (.tup [.tup [.str [116, 97, 107, 101], .bl false, .str (l.map (·.2))], .int ((pre.length : Int) + 2 + ((enc l).length : Int) + 1)]) := by
    simp [f_p_set_at, run_eq, b_p_set_at, hl, c, lp]
    try omega
  simp [f_p_piece_at, run_eq, b_p_piece_at, e, b_p_piece_at_1, b_p_piece_at_2, e2, td_take]
  omega
/-- a piece's writing is read, whatever stands around it -/
def RdP (k : Nat) (x : List Nat) (t : Tr) (free rdy : Bool) : Prop := ∀ (pre post : List Nat) (base : List (List Tr × List Tr)) (R P : List Tr) (r : Bool), (pre ++ (x ++ post)).length ≤ 16777216 → base.length ≤ k → R.length ≤ 5000 → P.length ≤ 5000 → (free = false → post.take 1 ≠ [33]) →
  Go (pre ++ (x ++ post)) (base ++ [(R, P)]) r pre.length (base ++ [(R, P ++ [t])]) rdy (pre.length + x.length)
theorem RdP.mono {k k' : Nat} {x : List Nat} {t : Tr} {f r : Bool} (h : RdP k x t f r) (hk : k' ≤ k) : RdP k' x t f r := fun pre post base R P q h1 h2 h3 h4 h5 => h pre post base R P q h1 (by omega) h3 h4 h5
theorem RdP.of {c : Nat} {y : List Nat} {t : Tr} (hc : c ≠ 40 ∧ c ≠ 41 ∧ c ≠ 124 ∧ c ≠ 42 ∧ c ≠ 63)
    (h : ∀ pre post : List Nat, (pre ++ (c :: y ++ post)).length ≤ 16777216 → f_p_piece_at [.str (pre ++ (c :: y ++ post)), .int (pre.length : Int)] = .ok (.tup [td t, .int ((pre.length : Int) + (((c :: y).length : Nat) : Int))])) : RdP 30 (c :: y) t true true := by
  intro pre post base R P r hl hb hR hP _
  exact step_piece pre (y ++ post) c base R P r t (c :: y).length hl (by omega) (by omega) hc (h pre post hl)
theorem RdP.paren {k : Nat} {x : List Nat} {t : Tr} {f r : Bool} (h : RdP (k + 1) x t f r) (hk : k ≤ 29) : RdP k (40 :: (x ++ [41])) t true true := by
  intro pre post base R P r' hl hb hR hP _
  have p1 : pre ++ (40 :: (x ++ [41]) ++ post) = pre ++ 40 :: (x ++ 41 :: post) := by simp
  have p2 : pre ++ (40 :: (x ++ [41]) ++ post) = (pre ++ [40]) ++ (x ++ 41 :: post) := by simp
  have p3 : pre ++ (40 :: (x ++ [41]) ++ post) = (pre ++ [40] ++ x) ++ 41 :: post := by simp
  have s1 := step_open pre (x ++ 41 :: post) base R P r' (by rw [← p1]; exact hl) (by omega)
  have s2 := h (pre ++ [40]) (41 :: post) (base ++ [(R, P)]) [] [] false (by rw [← p2]; exact hl) (by simp; omega) (by simp) (by simp) (fun _ => by simp)
  have s3 := step_close (pre ++ [40] ++ x) post base R P [] ([] ++ [t]) r (by rw [← p3]; exact hl) (by omega) (by omega) (by simp)
  have e : pk' ([] ++ [rw' ([] ++ [t])]) = t := rfl
  rw [e] at s3
  rw [← p1] at s1
  rw [← p2] at s2
  rw [← p3] at s3
  have l1 : pre.length + 1 = (pre ++ [40]).length := by simp
  have l2 : (pre ++ [40]).length + x.length = (pre ++ [40] ++ x).length := by simp; omega
  have l3 : (pre ++ [40] ++ x).length + 1 = pre.length + (40 :: (x ++ [41])).length := by simp; omega
  rw [l1] at s1
  rw [l2] at s2
  rw [l3] at s3
  exact (s1.trans s2).trans s3
theorem RdP.maybe1 {k : Nat} {x : List Nat} {t : Tr} {f : Bool} (h : RdP k x t f true) (hk : k ≤ 1000) : RdP k (x ++ [63]) (.maybe t true) false false := by
  intro pre post base R P r' hl hb hR hP hq
  have p1 : pre ++ (x ++ [63] ++ post) = pre ++ (x ++ 63 :: post) := by simp
  have p2 : pre ++ (x ++ [63] ++ post) = (pre ++ x) ++ 63 :: post := by simp
  have s1 := h pre (63 :: post) base R P r' (by rw [← p1]; exact hl) hb hR hP (fun _ => by simp)
  have s2 := step_maybe (pre ++ x) post base R P t (by rw [← p2]; exact hl) (by omega) (by omega) (hq rfl)
  rw [← p1, ← List.length_append] at s1
  rw [← p2] at s2
  have l1 : (pre ++ x).length + 1 = pre.length + (x ++ [63]).length := by simp; omega
  rw [l1] at s2
  exact s1.trans s2
theorem RdP.maybe2 {k : Nat} {x : List Nat} {t : Tr} {f : Bool} (h : RdP k x t f true) (hk : k ≤ 1000) : RdP k (x ++ [63, 33]) (.maybe t false) true false := by
  intro pre post base R P r' hl hb hR hP hq
  have p1 : pre ++ (x ++ [63, 33] ++ post) = pre ++ (x ++ 63 :: 33 :: post) := by simp
  have p2 : pre ++ (x ++ [63, 33] ++ post) = (pre ++ x) ++ 63 :: 33 :: post := by simp
  have s1 := h pre (63 :: 33 :: post) base R P r' (by rw [← p1]; exact hl) hb hR hP (fun _ => by simp)
  have s2 := step_maybe' (pre ++ x) post base R P t (by rw [← p2]; exact hl) (by omega) (by omega)
  rw [← p1, ← List.length_append] at s1
  rw [← p2] at s2
  have l1 : (pre ++ x).length + 2 = pre.length + (x ++ [63, 33]).length := by simp; omega
  rw [l1] at s2
  exact s1.trans s2
theorem RdP.many1 {k : Nat} {x : List Nat} {t : Tr} {f : Bool} (h : RdP k x t f true) (hk : k ≤ 1000) (hb' : f_p_bare 200 [td t] = .ok (.bl false)) : RdP k (x ++ [42]) (.many t true) false false := by
  intro pre post base R P r' hl hb hR hP hq
  have p1 : pre ++ (x ++ [42] ++ post) = pre ++ (x ++ 42 :: post) := by simp
  have p2 : pre ++ (x ++ [42] ++ post) = (pre ++ x) ++ 42 :: post := by simp
  have s1 := h pre (42 :: post) base R P r' (by rw [← p1]; exact hl) hb hR hP (fun _ => by simp)
  have s2 := step_many (pre ++ x) post base R P t (by rw [← p2]; exact hl) (by omega) (by omega) (hq rfl) hb'
  rw [← p1, ← List.length_append] at s1
  rw [← p2] at s2
  have l1 : (pre ++ x).length + 1 = pre.length + (x ++ [42]).length := by simp; omega
  rw [l1] at s2
  exact s1.trans s2
theorem RdP.many2 {k : Nat} {x : List Nat} {t : Tr} {f : Bool} (h : RdP k x t f true) (hk : k ≤ 1000) (hb' : f_p_bare 200 [td t] = .ok (.bl false)) : RdP k (x ++ [42, 33]) (.many t false) true false := by
  intro pre post base R P r' hl hb hR hP hq
  have p1 : pre ++ (x ++ [42, 33] ++ post) = pre ++ (x ++ 42 :: 33 :: post) := by simp
  have p2 : pre ++ (x ++ [42, 33] ++ post) = (pre ++ x) ++ 42 :: 33 :: post := by simp
  have s1 := h pre (42 :: 33 :: post) base R P r' (by rw [← p1]; exact hl) hb hR hP (fun _ => by simp)
  have s2 := step_many' (pre ++ x) post base R P t (by rw [← p2]; exact hl) (by omega) (by omega) hb'
  rw [← p1, ← List.length_append] at s1
  rw [← p2] at s2
  have l1 : (pre ++ x).length + 2 = pre.length + (x ++ [42, 33]).length := by simp; omega
  rw [l1] at s2
  exact s1.trans s2
end Mt
end
section
namespace Mt
open Mini Bd
def escd (c : Int) (lead : Bool) : Bool := decide (sg c ∈ [126, 93]) || (lead && decide (sg c = 33)) || decide (c / 96 % 3 = 1)
theorem sign_in (c : Int) (lead : Bool) : f_l_sign_in [.int c, .bl lead] = .ok (.str (enc1 (escd c lead, sg c))) := by
  unfold escd enc1
  by_cases h1 : sg c ∈ [126, 93]
  · simp [f_l_sign_in, run_eq, b_l_sign_in, sign_by, h1] at *
  · have h1' := h1
    simp only [List.mem_cons, List.not_mem_nil, or_false, not_or] at h1'
    cases lead with
    | true =>
      by_cases h2 : sg c = 33
      · simp [f_l_sign_in, run_eq, b_l_sign_in, sign_by, h1', h2]
      · by_cases h3 : c / 96 % 3 = 1 <;> simp [f_l_sign_in, run_eq, b_l_sign_in, sign_by, h1', h2, h3]
    | false =>
      by_cases h3 : c / 96 % 3 = 1 <;> simp [f_l_sign_in, run_eq, b_l_sign_in, sign_by, h1', h3]
theorem set_by (c : Int) (large : Bool) : ∃ x t, f_l_set_by [.int c, .bl large] = .ok (.tup [.str x, td t]) ∧ RdP 30 x t true true ∧ x.take 1 ≠ [33] ∧ x ≠ [] ∧ x.length ≤ 200 ∧ wf t = true ∧ bare t = false ∧ hi t = 1 := by
  obtain ⟨m, hm0, hm⟩ : ∃ m : Nat, m ≤ 89 ∧ b_l_set_by_1 [some (.int c), some (.bl large), some (.int (c / 2 % 3 + 9 * (if c / 6 % 7 = 3 then 1 else 0))), none, none, none, none] [] = b_l_set_by_2 [some (.int c), some (.bl large), some (.int (m : Int)), none, none, none, none] [] := by
    by_cases h : large = true ∧ c / 6 % 3 = 0
    · obtain ⟨m, hm⟩ := Int.eq_ofNat_of_zero_le (show 0 ≤ 20 + c / 18 % 70 by omega)
      refine ⟨m, by omega, ?_⟩
      simp [b_l_set_by_1, h.1, h.2, hm]
    · obtain ⟨m, hm⟩ := Int.eq_ofNat_of_zero_le (show 0 ≤ c / 2 % 3 + 9 * (if c / 6 % 7 = 3 then 1 else 0) by split <;> omega)
      refine ⟨m, by split at hm <;> omega, ?_⟩
      rw [hm]
      cases large with
      | true =>
        have h2 : ¬ c / 6 % 3 = 0 := fun h2 => h ⟨rfl, h2⟩
        simp [b_l_set_by_1, h2]
      | false => simp [b_l_set_by_1]
  have z9 : small64 9 := by unfold small64; omega
  have z29 : small64 29 := by unfold small64; omega
  obtain ⟨p0, hp0, hpl⟩ : ∃ p0 : List Nat, (if c % 2 = 0 then [91] else [91, 33]) = p0 ∧ p0.length ≤ 2 := ⟨_, rfl, by split <;> simp⟩
  have hl := forF_inv (i := 6) (b := c_l_set_by_1)
    (fun j e s => s = [] ∧ ∃ l q, e = [some (.int c), some (.bl large), some (.int (m : Int)), some (.int (c / 42)), some (.str (p0 ++ enc l)), some (.str (l.map (·.2))), q] ∧ l.length = j ∧ (∀ q ∈ l, q.1 = false → q.2 ≠ 126 ∧ q.2 ≠ 93) ∧ (∀ q ∈ l, q.2 ∈ tbl) ∧ (c % 2 = 0 → ∀ q r, l = q :: r → q.1 = false → q.2 ≠ 33))
    (rng 0 m) 0 [some (.int c), some (.bl large), some (.int (m : Int)), some (.int (c / 42)), some (.str p0), some (.str []), none] [] ⟨rfl, [], none, by simp [enc], rfl, by simp, by simp, by simp⟩ (fun k e s d hi' hd => by
      obtain ⟨rfl, l, q, rfl, h1, h2, h3, h4⟩ := hi'
      obtain ⟨h5, rfl⟩ := rng_at hd
      simp only [Nat.zero_add] at *
      have el := enc_len l
      obtain ⟨ld, hld⟩ : ∃ ld : Bool, (decide ((k : Int) = 0) && decide (c % 2 = 0)) = ld := ⟨_, rfl⟩
      have hs := sign_in (c / 42 + 29 * k) ld
      obtain ⟨e1, he1⟩ : ∃ e1, escd (c / 42 + 29 * k) ld = e1 := ⟨_, rfl⟩
      rw [he1] at hs
      have e1l : (enc1 (e1, sg (c / 42 + 29 * k))).length ≤ 2 := by unfold enc1; split <;> simp
      have gA : ∀ t u : Option D, mAnd (mOp opEq (mV 6) (mC (.int 0))) (mOp opEq (mOp opMod (mV 0) (mC (.int 2))) (mC (.int 0))) [some (.int c), some (.bl large), some (.int (m : Int)), some (.int (c / 42)), t, u, some (.int (k : Int))] [] = .ok (.bl ld, []) := fun t u => by
        rw [← hld]
        by_cases h0 : k = 0 <;> simp [h0]
      refine ⟨_, _, .inl ?_, rfl, l ++ [(e1, sg (c / 42 + 29 * k))], some (.int k), rfl, by simp [h1], ?_, ?_, ?_⟩
      · simp [c_l_set_by_1, sign_by, z29, gA, hs, enc_app, enc, show p0.length + ((enc l).length + (enc1 (e1, sg (c / 42 + 29 * k))).length) ≤ 16777216 by omega, show p0.length + (enc l).length + (enc1 (e1, sg (c / 42 + 29 * k))).length ≤ 16777216 by omega, show l.length + 1 ≤ 16777216 by omega, -mAnd_eq]
      · intro q hq hf
        rcases List.mem_append.mp hq with hq | hq
        · exact h2 q hq hf
        · rw [List.mem_singleton.mp hq] at hf ⊢
          rw [← he1] at hf
          simp only [escd, Bool.or_eq_false_iff, decide_eq_false_iff_not, List.mem_cons, List.not_mem_nil, or_false, not_or] at hf
          exact hf.1.1
      · intro q hq
        rcases List.mem_append.mp hq with hq | hq
        · exact h3 q hq
        · rw [List.mem_singleton.mp hq]; exact sg_mem _
      · intro h0 q r hqr hf
        cases l with
        | nil =>
          simp only [List.nil_append, List.cons.injEq] at hqr
          obtain ⟨rfl, _⟩ := hqr
          have hk0 : (k : Int) = 0 := by simp at h1; omega
          have hld' : ld = true := by rw [← hld, hk0, h0]; rfl
          rw [← he1, hld'] at hf
          simp only [escd, Bool.or_eq_false_iff, Bool.true_and, decide_eq_false_iff_not] at hf
          exact hf.1.2
        | cons a as =>
          simp only [List.cons_append, List.cons.injEq] at hqr
          obtain ⟨rfl, _⟩ := hqr
          exact h4 h0 _ _ rfl hf)
  obtain ⟨e', s', hf, rfl, l, q, rfl, h1, h2, h3, h4⟩ := hl
  rw [rng_len, Nat.zero_add] at h1
  have el := enc_len l
  have hw : ∀ b, wf (.take b (l.map (·.2))) = true := fun b => by
    simp [wf]
    exact ⟨by omega, fun b hb => h3 _ hb, fun b hb => h3 _ hb⟩
  have gI : ∀ a b r : Option D, ∀ t u w : Option D, mIf (tV (mOp opEq (mOp opMod (mV 0) (mC (.int 2))) (mC (.int 0)))) (mC (.str [91])) (mC (.str [91, 33])) [some (.int c), a, b, r, t, u, w] [] = .ok (.str p0, []) := fun a b r t u w => by
    rw [← hp0]
    by_cases hc : c % 2 = 0 <;> simp [hc]
  have key : f_l_set_by [.int c, .bl large] = .ok (.tup [.str (p0 ++ (enc l ++ [93])), td (.take (decide (c % 2 = 0)) (l.map (·.2)))]) := by
    have e0 : f_l_set_by [.int c, .bl large] = (kRun (b_l_set_by_1 [some (.int c), some (.bl large), some (.int (c / 2 % 3 + 9 * (if c / 6 % 7 = 3 then 1 else 0))), none, none, none, none] [])).nox := by
      simp [f_l_set_by, run_eq, b_l_set_by, z9]
    rw [e0, hm]
    simp [b_l_set_by_2, b_l_set_by_3, gI, b_l_set_by_4, b_l_set_by_5, show (m : Int) < 4611686018427387904 by omega, hf, b_l_set_by_6, show p0.length + (enc l).length + 1 ≤ 16777216 by omega, show p0.length + ((enc l).length + 1) ≤ 16777216 by omega, td_take, -mIf_eq]
  have en : (enc l).length ≤ 178 := by omega
  by_cases hc : c % 2 = 0
  · rw [if_pos hc] at hp0
    subst hp0
    refine ⟨_, _, key, ?_, by simp, by simp, by simp; omega, hw _, by simp [bare], by simp [hi]⟩
    rw [decide_eq_true hc]
    refine RdP.of (c := 91) (y := enc l ++ [93]) (by decide) fun pre post hl => ?_
    have e1 : pre ++ (91 :: (enc l ++ [93]) ++ post) = pre ++ 91 :: (enc l ++ 93 :: post) := by simp
    have := piece_set_t l pre post h2 (h4 hc) (by rw [← e1]; exact hl) (by omega)
    rw [← e1] at this
    rw [show (91 :: (enc l ++ [93])).length = (enc l).length + 2 by simp]
    exact this
  · rw [if_neg hc] at hp0
    subst hp0
    refine ⟨_, _, key, ?_, by simp, by simp, by simp; omega, hw _, by simp [bare], by simp [hi]⟩
    rw [decide_eq_false hc]
    refine RdP.of (c := 91) (y := 33 :: (enc l ++ [93])) (by decide) fun pre post hl => ?_
    have e1 : pre ++ (91 :: 33 :: (enc l ++ [93]) ++ post) = pre ++ 91 :: 33 :: (enc l ++ 93 :: post) := by simp
    have := piece_set_f l pre post h2 (by rw [← e1]; exact hl) (by omega)
    rw [← e1] at this
    rw [show (91 :: 33 :: (enc l ++ [93])).length = (enc l).length + 3 by simp]
    exact this
theorem piece_by (c : Int) (large free : Bool) : ∃ x t, f_l_piece_by [.int c, .bl large, .bl free] = .ok (.tup [.str x, td t]) ∧ RdP 30 x t true true ∧ (free = false → x.take 1 ≠ [33]) ∧ x ≠ [] ∧ x.length ≤ 200 ∧ wf t = true ∧ bare t = false ∧ hi t = 1 := by
  have rt : ∀ s : Nat, RdP 30 [126, s] (.take true [s]) true true := fun s => RdP.of (c := 126) (y := [s]) (by decide) fun pre post hl => piece_tilde s pre post hl
  have ok1 : ∀ (b : Bool) (s : Nat), s ∈ tbl → wf (.take b [s]) = true := fun b s h => by simp [wf, h]
  by_cases h0 : c % 5 = 0
  · obtain ⟨x, t, e, q1, q2, q3⟩ := set_by (c / 5) large
    refine ⟨x, t, ?_, q1, fun _ => q2, q3⟩
    have hz : frz 0 [] (td t) = some (td t) := frz_td 0 [] t
    simp [f_l_piece_by, run_eq, b_l_piece_by, b_l_piece_by_1, b_l_piece_by_2, h0, e, hz]
  by_cases h1 : c % 5 = 1 ∧ c / 5 % 3 = 0
  · refine ⟨[46], .take false [], ?_, RdP.of (c := 46) (y := []) (by decide) fun pre post hl => ?_, fun _ => by simp, by simp, by simp, by decide, by simp [bare], by simp [hi]⟩
    · simp [f_l_piece_by, run_eq, b_l_piece_by, b_l_piece_by_1, b_l_piece_by_2, h0, b_l_piece_by_3, h1.1, h1.2, td_take]
    · have e := ix_at [] pre 46 post hl
      have e1 : pre ++ ([46] ++ post) = pre ++ 46 :: post := rfl
      rw [e1]
      generalize pre ++ 46 :: post = p at *
      simp [f_p_piece_at, run_eq, b_p_piece_at, e, b_p_piece_at_1, b_p_piece_at_2, b_p_piece_at_3, td_take]
  have g3 : ∀ x, b_l_piece_by_3 [some (.int c), some (.bl large), some (.bl free), some (.int (c % 5)), some (.int (c / 5)), x] [] = b_l_piece_by_4 [some (.int c), some (.bl large), some (.bl free), some (.int (c % 5)), some (.int (c / 5)), x] [] := fun x => by
    by_cases h : c % 5 = 1
    · have h' : ¬ c / 5 % 3 = 0 := fun h' => h1 ⟨h, h'⟩
      simp [b_l_piece_by_3, h, h']
    · simp [b_l_piece_by_3, h]
  have g0 : f_l_piece_by [.int c, .bl large, .bl free] = (kRun (b_l_piece_by_4 [some (.int c), some (.bl large), some (.bl free), some (.int (c % 5)), some (.int (c / 5)), none] [])).nox := by
    simp [f_l_piece_by, run_eq, b_l_piece_by, b_l_piece_by_1, b_l_piece_by_2, h0, g3]
  by_cases h2 : c % 5 = 2 ∧ c / 5 % 3 = 0
  · cases free with
    | true =>
      refine ⟨[33], .take true [33], ?_, RdP.of (c := 33) (y := []) (by decide) fun pre post hl => piece_plain 33 pre post hl (by decide) (by decide) (by decide) (by decide), fun h => by simp at h, by simp, by simp, by decide, by simp [bare], by simp [hi]⟩
      rw [g0]
      simp [b_l_piece_by_4, h2.1, h2.2, td_take]
    | false =>
      refine ⟨[126, 33], .take true [33], ?_, rt 33, fun h => by simp, by simp, by simp, by decide, by simp [bare], by simp [hi]⟩
      rw [g0]
      simp [b_l_piece_by_4, h2.1, h2.2, td_take]
  have g4 : ∀ x, b_l_piece_by_4 [some (.int c), some (.bl large), some (.bl free), some (.int (c % 5)), some (.int (c / 5)), x] [] = b_l_piece_by_5 [some (.int c), some (.bl large), some (.bl free), some (.int (c % 5)), some (.int (c / 5)), x] [] := fun x => by
    by_cases h : c % 5 = 2
    · have h' : ¬ c / 5 % 3 = 0 := fun h' => h2 ⟨h, h'⟩
      simp [b_l_piece_by_4, h, h']
    · simp [b_l_piece_by_4, h]
  rw [g4] at g0
  have hsg := sg_mem (c / 5)
  by_cases hs : sg (c / 5) ∈ spc
  · refine ⟨[126, sg (c / 5)], .take true [sg (c / 5)], ?_, rt _, fun _ => by simp, by simp, by simp, ok1 _ _ hsg, by simp [bare], by simp [hi]⟩
    rw [g0]
    have hs' := decide_eq_true hs
    unfold spc at hs'
    have gT : ∀ e : Env, e = [some (.int c), some (.bl large), some (.bl free), some (.int (c % 5)), some (.int (c / 5)), some (.str [sg (c / 5)])] → tV (mOp opIn (mV 5) (mC (.str [40, 41, 124, 42, 63, 46, 91, 93, 126, 33]))) e [] = .ok (true, []) := by
      rintro e rfl
      simp only [tV_eq, mOp_eq, mV_eq, mC_eq, look_s, look_0, kV_some, kOp1_ok, kOp2_ok, rz_str, opIn, opInB_sg, Option.map_some, hs', kOf_some, kTV_ok]
    have gT := gT _ rfl
    simp [b_l_piece_by_5, sign_by, b_l_piece_by_6, gT, td_take, -tV_eq]
  · have hs' := decide_eq_false hs
    unfold spc at hs'
    have gT : ∀ e : Env, e = [some (.int c), some (.bl large), some (.bl free), some (.int (c % 5)), some (.int (c / 5)), some (.str [sg (c / 5)])] → tV (mOp opIn (mV 5) (mC (.str [40, 41, 124, 42, 63, 46, 91, 93, 126, 33]))) e [] = .ok (false, []) := by
      rintro e rfl
      simp only [tV_eq, mOp_eq, mV_eq, mC_eq, look_s, look_0, kV_some, kOp1_ok, kOp2_ok, rz_str, opIn, opInB_sg, Option.map_some, hs', kOf_some, kTV_ok]
    have gT := gT _ rfl
    have gO : ∀ e : Env, e = [some (.int c), some (.bl large), some (.bl free), some (.int (c % 5)), some (.int (c / 5)), some (.str [sg (c / 5)])] → tOr (tV (mOp opIn (mV 5) (mC (.str [40, 41, 124, 42, 63, 46, 91, 93, 126, 33])))) (tV (mOp opEq (mOp opMod (mOp opDiv (mV 4) (mC (.int 96))) (mC (.int 4))) (mC (.int 1)))) e [] = .ok (decide (c / 5 / 96 % 4 = 1), []) := by
      rintro e rfl
      rw [tOr_eq, gT]
      simp
    have gO := gO _ rfl
    have hn : ∀ k, k ∈ spc → sg (c / 5) ≠ k := fun k hk h => hs (by rw [h]; exact hk)
    by_cases h4 : c / 5 / 96 % 4 = 1
    · refine ⟨[126, sg (c / 5)], .take true [sg (c / 5)], ?_, rt _, fun _ => by simp, by simp, by simp, ok1 _ _ hsg, by simp [bare], by simp [hi]⟩
      rw [g0]
      rw [decide_eq_true h4] at gO
      simp [b_l_piece_by_5, sign_by, b_l_piece_by_6, gO, td_take, -tOr_eq]
    · refine ⟨[sg (c / 5)], .take true [sg (c / 5)], ?_, RdP.of (c := sg (c / 5)) (y := []) ⟨hn _ (by decide), hn _ (by decide), hn _ (by decide), hn _ (by decide), hn _ (by decide)⟩ fun pre post hl => piece_plain _ pre post hl (hn _ (by decide)) (hn _ (by decide)) (hn _ (by decide)) (hn _ (by decide)), fun _ => by simp [hn 33 (by decide)], by simp, by simp, ok1 _ _ hsg, by simp [bare], by simp [hi]⟩
      rw [g0]
      rw [decide_eq_false h4] at gO
      simp [b_l_piece_by_5, sign_by, b_l_piece_by_6, gO, b_l_piece_by_7, td_take, -tOr_eq]
theorem bracketed (x : List Nat) (t : Tr) (w : Int) (h0 : 0 ≤ w) (h8 : w < 8) (hx : x.length ≤ 1000) : ∃ x', f_l_bracketed [.tup [.str x, td t], .int w] = .ok (.tup [.str x', td t]) ∧ (w ≤ 4 ∧ x' = x ∨ (w = 5 ∨ w = 6) ∧ x' = 40 :: (x ++ [41]) ∨ w = 7 ∧ x' = 40 :: (40 :: (x ++ [41]) ++ [41])) := by
  have hw : w = 0 ∨ w = 1 ∨ w = 2 ∨ w = 3 ∨ w = 4 ∨ w = 5 ∨ w = 6 ∨ w = 7 := by omega
  have hz : frz 0 [] (td t) = some (td t) := frz_td 0 [] t
  rcases hw with rfl | rfl | rfl | rfl | rfl | rfl | rfl | rfl
  · exact ⟨x, by simp [f_l_bracketed, run_eq, b_l_bracketed, pos, hz, show x.length ≤ 16777216 by omega], .inl ⟨by omega, rfl⟩⟩
  · exact ⟨x, by simp [f_l_bracketed, run_eq, b_l_bracketed, pos, hz, show x.length ≤ 16777216 by omega], .inl ⟨by omega, rfl⟩⟩
  · exact ⟨x, by simp [f_l_bracketed, run_eq, b_l_bracketed, pos, hz, show x.length ≤ 16777216 by omega], .inl ⟨by omega, rfl⟩⟩
  · exact ⟨x, by simp [f_l_bracketed, run_eq, b_l_bracketed, pos, hz, show x.length ≤ 16777216 by omega], .inl ⟨by omega, rfl⟩⟩
  · exact ⟨x, by simp [f_l_bracketed, run_eq, b_l_bracketed, pos, hz, show x.length ≤ 16777216 by omega], .inl ⟨by omega, rfl⟩⟩
  · exact ⟨40 :: (x ++ [41]), by simp [f_l_bracketed, run_eq, b_l_bracketed, pos, hz, show 1 + x.length ≤ 16777216 by omega, show x.length + 1 + 1 ≤ 16777216 by omega], .inr (.inl ⟨by omega, rfl⟩)⟩
  · exact ⟨40 :: (x ++ [41]), by simp [f_l_bracketed, run_eq, b_l_bracketed, pos, hz, show 1 + x.length ≤ 16777216 by omega, show x.length + 1 + 1 ≤ 16777216 by omega], .inr (.inl ⟨by omega, rfl⟩)⟩
  · exact ⟨40 :: (40 :: (x ++ [41]) ++ [41]), by simp [f_l_bracketed, run_eq, b_l_bracketed, pos, hz, show 2 + x.length ≤ 16777216 by omega, show x.length + 1 + 1 + 2 ≤ 16777216 by omega], .inr (.inr ⟨rfl, rfl⟩)⟩
theorem br {k : Nat} {x : List Nat} {t : Tr} {f r : Bool} (h : RdP (k + 2) x t f r) (hk : k ≤ 27) (w : Int) (h0 : 0 ≤ w) (h8 : w < 8) (hx : x.length ≤ 900) (hne : x ≠ []) :
    ∃ x', f_l_bracketed [.tup [.str x, td t], .int w] = .ok (.tup [.str x', td t]) ∧ RdP k x' t (f || decide (4 < w)) (r || decide (4 < w)) ∧ x' ≠ [] ∧ x'.length ≤ x.length + 4 ∧ (x.take 1 ≠ [33] → x'.take 1 ≠ [33]) := by
  obtain ⟨x', e, h1 | h1 | h1⟩ := bracketed x t w h0 h8 (by omega)
  · obtain ⟨h2, rfl⟩ := h1
    have : decide (4 < w) = false := by simp; omega
    refine ⟨x', e, ?_, hne, by omega, fun h => h⟩
    rw [this, Bool.or_false, Bool.or_false]
    exact h.mono (by omega)
  · obtain ⟨h2, rfl⟩ := h1
    have : decide (4 < w) = true := by simp; omega
    refine ⟨_, e, ?_, by simp, by simp, fun _ => by simp⟩
    rw [this, Bool.or_true, Bool.or_true]
    exact RdP.paren (h.mono (by omega)) (by omega)
  · obtain ⟨rfl, rfl⟩ := h1
    refine ⟨_, e, ?_, by simp, by simp, fun _ => by simp⟩
    have q : RdP k _ t true true := RdP.paren (k := k) (RdP.paren (k := k + 1) h (by omega)) (by omega)
    rw [show decide ((4 : Int) < 7) = true from rfl, Bool.or_true, Bool.or_true]
    exact q
theorem rep {k : Nat} {x : List Nat} {t : Tr} (h : RdP k x t true true) (hk : k ≤ 1000) (hw : wf t = true) (hb : bare t = false) (hi1 : hi t = 1) (w : Int) (h0 : 0 ≤ w) (h8 : w < 8) (hx : x.length ≤ 900) (hne : x ≠ []) :
    ∃ x' t' r, f_l_repeated_by [.tup [.str x, td t], .int w] = .ok (.tup [.str x', td t']) ∧ RdP k x' t' (decide (3 < w) || decide (w % 2 = 1)) r ∧ x' ≠ [] ∧ x'.length ≤ x.length + 2 ∧ x'.take 1 = x.take 1 ∧ wf t' = true ∧ hi t' ≤ 2 := by
  have hbr := p_bare 200 t (by omega) hw
  rw [hb] at hbr
  have hz : frz 0 [] (td t) = some (td t) := frz_td 0 [] t
  have htk : ∀ y : List Nat, (x ++ y).take 1 = x.take 1 := fun y => by
    cases x with
    | nil => exact absurd rfl hne
    | cons a b => simp
  by_cases h3 : 3 < w
  · refine ⟨x, t, true, ?_, ?_, hne, by omega, rfl, hw, by omega⟩
    · simp [f_l_repeated_by, run_eq, b_l_repeated_by, h3, hz]
    · rw [decide_eq_true h3, Bool.true_or]; exact h
  · have hw4 : w = 0 ∨ w = 1 ∨ w = 2 ∨ w = 3 := by omega
    rcases hw4 with rfl | rfl | rfl | rfl
    · exact ⟨x ++ [42], .many t true, false, by simp [f_l_repeated_by, run_eq, b_l_repeated_by, pos, hz, show x.length + 1 ≤ 16777216 by omega, td_many], RdP.many1 h hk hbr, by simp, by simp, htk _, by rw [wf, hw, hb]; rfl, by rw [hi]; omega⟩
    · exact ⟨x ++ [42, 33], .many t false, false, by simp [f_l_repeated_by, run_eq, b_l_repeated_by, pos, hz, show x.length + 2 ≤ 16777216 by omega, td_many], RdP.many2 h hk hbr, by simp, by simp, htk _, by rw [wf, hw, hb]; rfl, by rw [hi]; omega⟩
    · exact ⟨x ++ [63], .maybe t true, false, by simp [f_l_repeated_by, run_eq, b_l_repeated_by, pos, hz, show x.length + 1 ≤ 16777216 by omega, td_maybe], RdP.maybe1 h hk, by simp, by simp, htk _, by rw [wf, hw], by rw [hi]; omega⟩
    · exact ⟨x ++ [63, 33], .maybe t false, false, by simp [f_l_repeated_by, run_eq, b_l_repeated_by, pos, hz, show x.length + 2 ≤ 16777216 by omega, td_maybe], RdP.maybe2 h hk, by simp, by simp, htk _, by rw [wf, hw], by rw [hi]; omega⟩
theorem row_tree (P : List Tr) : f_l_row_tree [.lst (P.map td)] = .ok (td (rw' P)) := by
  match P with
  | [] => simp [f_l_row_tree, run_eq, b_l_row_tree, rw', td_row]
  | [t] => simp [f_l_row_tree, run_eq, b_l_row_tree, rw', pos, frz_td]
  | t :: u :: r =>
    have h : ¬ ((r.length : Int) + 1 + 1 = 1) := by omega
    have e := frzL_free 0 [] (r.map td) (by rw [← tdL_eq]; exact free_tdL r)
    simp [f_l_row_tree, run_eq, b_l_row_tree, rw', td_row, h, frz_td, e]
mutual
theorem noL_td : ∀ t : Tr, noL (td t) = true
  | .take b z => by rw [td]; rfl
  | .row ps => by rw [td]; simp [noL_tdL ps]
  | .pick ps => by rw [td]; simp [noL_tdL ps]
  | .maybe t g => by rw [td]; simp [noL_td t]
  | .many t g => by rw [td]; simp [noL_td t]
theorem noL_tdL : ∀ ts : List Tr, noLL (tdL ts) = true
  | [] => rfl
  | t :: ts => by rw [tdL]; simp [noL_td t, noL_tdL ts]
end
/-- one item of the law's text -/
theorem item (c : Int) (large free : Bool) : ∃ x1 t1 x2 x3 t3 r3, f_l_piece_by [.int (c / 3584), .bl large, .bl free] = .ok (.tup [.str x1, td t1]) ∧ f_l_bracketed [.tup [.str x1, td t1], .int (c / 56 % 8)] = .ok (.tup [.str x2, td t1]) ∧
    (∃ x4, f_l_repeated_by [.tup [.str x2, td t1], .int (c / 7 % 8)] = .ok (.tup [.str x4, td t3]) ∧ f_l_bracketed [.tup [.str x4, td t3], .int (c / 448 % 8)] = .ok (.tup [.str x3, td t3])) ∧
    RdP 20 x3 t3 (decide (3 < c / 7 % 8) || decide (c / 7 % 8 % 2 = 1) || decide (4 < c / 448 % 8)) r3 ∧ (free = false → x3.take 1 ≠ [33]) ∧ x3.length ≤ 220 ∧ wf t3 = true ∧ hi t3 ≤ 2 ∧ x3 ≠ [] := by
  obtain ⟨x1, t1, e1, h1, h2, h3, h4, h5, h6, h7⟩ := piece_by (c / 3584) large free
  obtain ⟨x2, e2, g1, g2, g3, g4⟩ := br (k := 27) (h1.mono (by omega)) (by omega) (c / 56 % 8) (by omega) (by omega) (by omega) h3
  obtain ⟨x4, t3, r, e3, k1, k2, k3, k4, k5, k6⟩ := rep g1 (by omega) h5 h6 h7 (c / 7 % 8) (by omega) (by omega) (by omega) g2
  obtain ⟨x3, e4, m1, m2, m3, m4⟩ := br (k := 20) (k1.mono (by omega)) (by omega) (c / 448 % 8) (by omega) (by omega) (by omega) k2
  exact ⟨x1, t1, x2, x3, t3, _, e1, e2, ⟨x4, e3, e4⟩, m1, fun hf => m4 (by rw [k4]; exact g4 (h2 hf)), by omega, k5, k6, m2⟩
/-- what is told up to here is read -/
structure Told (j : Nat) (z : List Nat) (R P : List Tr) (free : Bool) : Prop where
  len : z.length ≤ 230 * j
  cnt : R.length + P.length ≤ j
  okR : ∀ t ∈ R, wf t = true ∧ hi t ≤ 3
  okP : ∀ t ∈ P, wf t = true ∧ hi t ≤ 2
  rd : ∀ post : List Nat, (z ++ post).length ≤ 16777216 → (free = false → post.take 1 ≠ [33]) → ∃ r, Go (z ++ post) [([], [])] false 0 [(R, P)] r z.length
theorem rw_ok {P : List Tr} (h : ∀ t ∈ P, wf t = true ∧ hi t ≤ 2) (hl : P.length ≤ 5000) : wf (rw' P) = true ∧ hi (rw' P) ≤ 3 := by
  by_cases h1 : P.length = 1
  · obtain ⟨t, rfl⟩ := List.length_eq_one_iff.mp h1
    have := h t List.mem_cons_self
    exact ⟨this.1, by have h2 := this.2; show hi t ≤ 3; omega⟩
  · rw [rw_row h1]
    refine ⟨mk_row h1 hl (by rw [wfL_eq, List.all_eq_true]; exact fun t ht => (h t ht).1), ?_⟩
    rw [hi]
    have := hiL_le (n := 2) fun t ht => (h t ht).2
    omega
theorem Told.bar {j : Nat} {z : List Nat} {R P : List Tr} {free : Bool} (h : Told j z R P free) (hj : j ≤ 1000) : Told (j + 1) (z ++ [124]) (R ++ [rw' P]) [] true := by
  refine ⟨by have := h.len; simp; omega, by have := h.cnt; simp; omega, fun t ht => ?_, by simp, fun post hl _ => ?_⟩
  · rcases List.mem_append.mp ht with ht | ht
    · exact h.okR t ht
    · rw [List.mem_singleton.mp ht]; exact rw_ok h.okP (by have := h.cnt; omega)
  · have e : z ++ [124] ++ post = z ++ 124 :: post := by simp
    rw [e] at hl ⊢
    obtain ⟨r, s1⟩ := h.rd (124 :: post) hl (fun _ => by simp)
    have s2 := step_bar z post [] R P r hl (by simp) (by have := h.cnt; omega)
    rw [List.length_append]
    exact ⟨_, s1.trans s2⟩
theorem Told.piece {j : Nat} {z x : List Nat} {R P : List Tr} {t : Tr} {free f r : Bool} (h : Told j z R P free) (hj : j ≤ 1000) (hx : RdP 20 x t f r) (hh : free = false → x.take 1 ≠ [33]) (hl : x.length ≤ 220) (hw : wf t = true) (hi2 : hi t ≤ 2) (hne : x ≠ []) : Told (j + 1) (z ++ x) R (P ++ [t]) f := by
  refine ⟨by have := h.len; simp; omega, by have := h.cnt; simp; omega, h.okR, fun u hu => ?_, fun post hp hq => ?_⟩
  · rcases List.mem_append.mp hu with hu | hu
    · exact h.okP u hu
    · rw [List.mem_singleton.mp hu]; exact ⟨hw, hi2⟩
  · rw [List.append_assoc] at hp ⊢
    obtain ⟨r1, s1⟩ := h.rd (x ++ post) hp (fun hf => by
      have := hh hf
      cases x with
      | nil => exact absurd rfl hne
      | cons a b => simpa using this)
    have s2 := hx z post [] R P r1 hp (by simp) (by have := h.cnt; omega) (by have := h.cnt; omega) hq
    rw [List.length_append]
    exact ⟨_, s1.trans s2⟩
theorem law_loop (ns : List Int) (cs : List Int) (hc : cs.length ≤ 45) : ∃ z R P free k s x5 x6 x7, forF 5 c_l_law_1 (cs.map .int) [some (.scr ns), some (.str []), some (.own 0), some (.own 1), some (.bl true), none, none, none, none, none] [.L [], .L []] =
      .ok (.nx [some (.scr ns), some (.str z), some (.own 0), some (.own k), some (.bl free), x5, x6, x7, none, none], s) ∧ s[0]? = some (.L (R.map td)) ∧ s[k]? = some (.L (P.map td)) ∧ k ≠ 0 ∧ Told 45 z R P free := by
  have hl := forF_inv (i := 5) (b := c_l_law_1)
    (fun j e s => j ≤ cs.length ∧ ∃ z R P free k x5 x6 x7, e = [some (.scr ns), some (.str z), some (.own 0), some (.own k), some (.bl free), x5, x6, x7, none, none] ∧ s[0]? = some (.L (R.map td)) ∧ s[k]? = some (.L (P.map td)) ∧ k ≠ 0 ∧ Told j z R P free)
    (cs.map .int) 0 [some (.scr ns), some (.str []), some (.own 0), some (.own 1), some (.bl true), none, none, none, none, none] [.L [], .L []]
    ⟨Nat.zero_le _, [], [], [], true, 1, none, none, none, rfl, rfl, rfl, by omega, by simp, by simp, by simp, by simp, fun post _ _ => ⟨false, Go.refl _ _ _ _⟩⟩ (fun j e s d hi' hd => by
      obtain ⟨_, z, R, P, free, k, x5, x6, x7, rfl, hs0, hsk, hk, hT⟩ := hi'
      rw [Nat.zero_add] at *
      rw [List.getElem?_map] at hd
      obtain ⟨c, hc2, rfl⟩ := Option.map_eq_some_iff.mp hd
      have hj : j < cs.length := (List.getElem?_eq_some_iff.mp hc2).1
      have hcnt := hT.cnt
      have hlen := hT.len
      by_cases h6 : c % 7 = 6
      · have gF : ∀ x1 x4 x5 x6 x7, mFz (mCall f_l_row_tree (aCons (mV 3) aNil)) [some (.scr ns), some (.str x1), some (.own 0), some (.own k), some (.bl x4), some (.int x5), x6, x7, none, none] s = .ok (td (rw' P), s) := fun x1 x4 x5 x6 x7 => by
          simp [hs0, hsk, row_tree, noL_td]
        have a1 : ∀ a e, kApp a e (.ok (.own 0, s)) = kApp2 0 (a e s) := fun a e => kApp_ok hs0
        have a2 := kApp2_ok (d := td (rw' P)) hs0 (by simp; omega) (free_td _)
        have h0l : 0 < s.length := (List.getElem?_eq_some_iff.mp hs0).1
        refine ⟨_, s.set 0 (.L (R.map td ++ [td (rw' P)])) ++ [.L []], .inl ?_, by omega, z ++ [124], R ++ [rw' P], [], true, s.length, some (.int c), x6, x7, rfl, ?_, ?_, by omega, hT.bar (by omega)⟩
        · simp [c_l_law_1, h6, show z.length + 1 ≤ 16777216 by omega, a1, gF, a2, -mFz_eq]
        · rw [List.getElem?_append_left (by simp; omega), List.getElem?_set_self h0l]; simp
        · rw [List.getElem?_append_right (by simp)]; simp
      · obtain ⟨x1, t1, x2, x3, t3, r3, e1, e2, ⟨x4, e3, e4⟩, q1, q2, q3, q4, q5, q6⟩ := item c (decide (z = [])) free
        have a1 : ∀ a e, kApp a e (.ok (.own k, s)) = kApp2 k (a e s) := fun a e => kApp_ok hsk
        have a2 := kApp2_ok (d := td t3) hsk (by simp; omega) (free_td _)
        have hkl : k < s.length := (List.getElem?_eq_some_iff.mp hsk).1
        have gO : ∀ t x7, mOr (mOp opGt (mV 6) (mC (.int 3))) (mOr (mOp opEq (mOp opMod (mV 6) (mC (.int 2))) (mC (.int 1))) (mOp opGt (mOp opMod (mOp opDiv (mV 5) (mC (.int 448))) (mC (.int 8))) (mC (.int 4)))) [some (.scr ns), some (.str t), some (.own 0), some (.own k), some (.bl free), some (.int c), some (.int (c / 7 % 8)), x7, none, none] (s.set k (.L (P.map td ++ [td t3]))) =
            .ok (.bl (decide (3 < c / 7 % 8) || decide (c / 7 % 8 % 2 = 1) || decide (4 < c / 448 % 8)), s.set k (.L (P.map td ++ [td t3]))) := fun t x7 => by
          by_cases b1 : 3 < c / 7 % 8
          · simp [b1]
          · by_cases b2 : c / 7 % 2 = 1 <;> simp [b1, b2]
        have hf1 := free_td t1
        have hf3 := free_td t3
        refine ⟨_, s.set k (.L (P.map td ++ [td t3])), .inl ?_, by omega, z ++ x3, R, P ++ [t3], _, k, some (.int c), some (.int (c / 7 % 8)), some (.tup [.str x3, td t3]), rfl, ?_, ?_, hk, hT.piece (by omega) q1 q2 q3 q4 q5 q6⟩
        · simp [c_l_law_1, h6, e1, e2, e3, e4, hf1, hf3, pos, show z.length + x3.length ≤ 16777216 by omega, a1, a2, gO, -mOr_eq]
        · rw [List.getElem?_set_ne (by omega)]; exact hs0
        · rw [List.getElem?_set_self hkl]; simp)
  obtain ⟨e', s', hf, h1, z, R, P, free, k, x5, x6, x7, rfl, hs0, hsk, hk, hT⟩ := hl
  rw [Nat.zero_add, List.length_map] at hT h1
  exact ⟨z, R, P, free, k, s', x5, x6, x7, hf, hs0, hsk, hk, by have := hT.len; omega, by have := hT.cnt; omega, hT.okR, hT.okP, hT.rd⟩
theorem go_tildes (zs : List Nat) : ∀ (pre : List Nat) (P : List Tr) (r : Bool), (pre ++ (zs.map fun c => [126, c]).flatten).length ≤ 16777216 → P.length + zs.length ≤ 5000 → ∃ r', Go (pre ++ (zs.map fun c => [126, c]).flatten) [([], P)] r pre.length [([], P ++ zs.map fun c => .take true [c])] r' (pre ++ (zs.map fun c => [126, c]).flatten).length := by
  induction zs with
  | nil => intro pre P r _ _; refine ⟨r, ?_⟩; simp; exact Go.refl _ _ _ _
  | cons c zs ih =>
    intro pre P r hl hP
    rw [List.map_cons, List.flatten_cons] at hl ⊢
    rw [List.length_cons] at hP
    have e1 : pre ++ ([126, c] ++ (zs.map fun c => [126, c]).flatten) = pre ++ 126 :: c :: (zs.map fun c => [126, c]).flatten := rfl
    have e2 : pre ++ ([126, c] ++ (zs.map fun c => [126, c]).flatten) = (pre ++ [126, c]) ++ (zs.map fun c => [126, c]).flatten := by simp
    have s1 := step_piece pre (c :: (zs.map fun c => [126, c]).flatten) 126 [] [] P r (.take true [c]) 2 hl (by simp) (by omega) (by decide) (piece_tilde c pre _ hl)
    obtain ⟨r2, s2⟩ := ih (pre ++ [126, c]) (P ++ [.take true [c]]) true (by rw [← e2]; exact hl) (by simp; omega)
    rw [← e2, List.length_append (bs := [126, c])] at s2
    rw [List.map_cons]
    have e3 : P ++ .take true [c] :: (zs.map fun c => Tr.take true [c]) = P ++ [.take true [c]] ++ zs.map fun c => .take true [c] := by simp
    rw [e3]
    exact ⟨r2, s1.trans s2⟩
theorem long_right (m : Nat) (h2 : 2 ≤ m) (hm : m ≤ 1000) (z : List Nat) (hl : z.length = 3) (hz : ∀ c ∈ z, c ∈ tbl) : f_l_long_right [.int (m : Int), .str z] = .ok (.bl true) := by
  have hlc : lcF 3 tYes (mOp opIx (mV 1) (mOp opMod (mV 3) (mC (.int 3)))) [some (.int (m : Int)), some (.str z), none, none, none, none] (rng 0 m) [] = .ok ((List.range m).map fun (k : Nat) => .str [at0 z (k % 3)], []) := by
    unfold rng
    refine lcF_idx _ _ _ fun k hk => ⟨?_, rfl⟩
    have e := opIx_str_nat [] z (k % 3) (by omega) (by omega)
    rw [show ((k % 3 : Nat) : Int) = (k : Int) % 3 by omega] at e
    simp [e]
  have hj : joinD [] (.lst ((List.range m).map fun (k : Nat) => .str [at0 z (k % 3)])) = some (.str ((List.range m).map fun k => at0 z (k % 3))) := join_signs _ _ (by simp; omega)
  have hzs : ∀ c ∈ (List.range m).map fun k => at0 z (k % 3), c ∈ tbl := fun c hc => by
    obtain ⟨k, _, rfl⟩ := List.mem_map.mp hc
    exact hz _ (at0_mem (by omega))
  have hzl : ((List.range m).map fun k => at0 z (k % 3)).length = m := by simp
  generalize ((List.range m).map fun k => at0 z (k % 3)) = zs at *
  have h1 : lcF 5 tYes (mOp opAdd (mC (.str [126])) (mV 5)) [some (.int (m : Int)), some (.str z), some (.str zs), none, none, none] (sgn zs) [] = .ok (zs.map fun c => .str [126, c], []) := by
    unfold sgn
    exact lcF_idx _ _ _ fun k hk => ⟨by simp, rfl⟩
  have hsum : ∀ q : List Nat, ((q.map fun c => [126, c]).map (·.length)).sum = 2 * q.length := by
    intro q
    induction q with
    | nil => rfl
    | cons x xs ih => rw [List.map_cons, List.map_cons, List.sum_cons, ih, List.length_cons]; simp; omega
  have hj2 : joinD [] (.lst (zs.map fun c => .str [126, c])) = some (.str (zs.map fun c => [126, c]).flatten) := by
    simp only [joinD, strs_map fun c => [126, c], Option.bind_some, line_eq]
    rw [if_pos (by simp only [List.length_nil, Nat.mul_zero]; rw [hsum]; omega), glue_nil]
  have hfl : (zs.map fun c => [126, c]).flatten.length = 2 * m := by
    have e : (zs.map fun c => [126, c]).flatten.length = ((zs.map fun c => [126, c]).map (·.length)).sum := List.length_flatten
    rw [e, hsum, hzl]
  obtain ⟨r, s1⟩ := go_tildes zs [] [] false (by rw [List.nil_append, hfl]; omega) (by simp; omega)
  simp only [List.nil_append, List.length_nil] at s1
  have rd := read_of (by rw [hfl]; omega) s1 (by simp)
  have e0 : pk' ([] ++ [rw' (zs.map fun c => Tr.take true [c])]) = .row (zs.map fun c => .take true [c]) := by
    show rw' _ = _
    exact rw_row (by simp; omega)
  rw [e0] at rd
  have hw : wf (.row (zs.map fun c => Tr.take true [c])) = true := mk_row (by simp; omega) (by simp; omega) (by
    rw [wfL_eq, List.all_eq_true]
    intro t ht
    obtain ⟨c, hc, rfl⟩ := List.mem_map.mp ht
    simp [wf, hzs c hc])
  have hh : hi (.row (zs.map fun c => Tr.take true [c])) ≤ 2 := by
    rw [hi]
    have := hiL_le (ps := zs.map fun c => Tr.take true [c]) (n := 1) fun t ht => by
      obtain ⟨c, hc, rfl⟩ := List.mem_map.mp ht
      rw [hi]; omega
    omega
  have al := alike_td _ (by omega) hw
  have et : td (.row (zs.map fun c => Tr.take true [c])) = .tup [.str [114, 111, 119], .tup (zs.map fun c => .tup [.str [116, 97, 107, 101], .bl true, .str [c]])] := by
    rw [td_row, List.map_map]
    congr 3
  rw [et] at al rd
  have h3 : ∀ q, lcF 5 tYes (mTup (aCons (mC (.str [116, 97, 107, 101])) (aCons (mC (.bl true)) (aCons (mV 5) aNil)))) [some (.int (m : Int)), some (.str z), some (.str zs), none, some q, none] (sgn zs) [] = .ok (zs.map fun c => .tup [.str [116, 97, 107, 101], .bl true, .str [c]], []) := by
    intro q
    unfold sgn
    exact lcF_idx _ _ _ fun k hk => ⟨by simp, rfl⟩
  have hsl : (sgn zs).length = m := by unfold sgn; simp [hzl]
  generalize (zs.map fun c => [126, c]).flatten = ft at *
  simp [f_l_long_right, run_eq, b_l_long_right, show (m : Int) < 4611686018427387904 by omega, rng_len, show m ≤ 16777216 by omega, hlc, hj, h1, hsl, hj2, h3, rd, al, -joinD]
theorem cut_45 (ns : List Int) : (cut ns none (some 45)).length ≤ 45 := by
  unfold cut; rw [List.length_take]; simp [six]; omega
theorem main (ns : List Int) (h63 : ns.length ≤ 63) : f_l_law [.scr ns] = .ok (.bl true) := by
  have c0 := cell_i ns 0 0 rfl
  obtain ⟨z, R, P, free, k, s, x5, x6, x7, hf, hs0, hsk, hk, hT⟩ := law_loop ns _ (cut_45 ns)
  obtain ⟨r, s1⟩ := hT.rd [] (by have := hT.len; simp; omega) (fun _ => by simp)
  rw [List.append_nil] at s1
  have hcnt := hT.cnt
  have rd := read_of (by have := hT.len; omega) s1 (by omega)
  have gF : mFz (mCall f_l_row_tree (aCons (mV 3) aNil)) [some (.scr ns), some (.str z), some (.own 0), some (.own k), some (.bl free), x5, x6, x7, none, none] s = .ok (td (rw' P), s) := by
    have hx : ∀ x : Option D, True := fun _ => trivial
    simp [hs0, hsk, row_tree, noL_td]
  have a1 : ∀ a e, kApp a e (.ok (.own 0, s)) = kApp2 0 (a e s) := fun a e => kApp_ok hs0
  have a2 := kApp2_ok (d := td (rw' P)) hs0 (by simp; omega) (free_td _)
  have h0l : 0 < s.length := (List.getElem?_eq_some_iff.mp hs0).1
  have okRf : ∀ t ∈ R ++ [rw' P], wf t = true ∧ hi t ≤ 3 := fun t ht => by
    rcases List.mem_append.mp ht with ht | ht
    · exact hT.okR t ht
    · rw [List.mem_singleton.mp ht]; exact rw_ok hT.okP (by omega)
  have hlen : (R ++ [rw' P]).length ≤ 46 := by simp; omega
  have hne : R ++ [rw' P] ≠ [] := by simp
  have hrf : rz (s.set 0 (.L (R.map td ++ [td (rw' P)]))) (.own 0) = .lst ((R ++ [rw' P]).map td) := by
    rw [rz_own (ds := R.map td ++ [td (rw' P)]) (by rw [List.getElem?_set_self h0l])]
    simp
  generalize R ++ [rw' P] = Rf at *
  generalize s.set 0 (.L (R.map td ++ [td (rw' P)])) = s2 at *
  have hlr : f_l_long_right [.int (2 + cellAt ns 0 / 8 % 998), .str [sg (cellAt ns 0 / 8), sg (cellAt ns 0 / 8 + 31), sg (cellAt ns 0 / 8 + 62)]] = .ok (.bl true) := by
    obtain ⟨m, hm⟩ := Int.eq_ofNat_of_zero_le (show 0 ≤ 2 + cellAt ns 0 / 8 % 998 by omega)
    rw [hm]
    exact long_right m (by omega) (by omega) _ rfl (three_is _).2
  have hw : wf (pk' Rf) = true ∧ hi (pk' Rf) ≤ 4 := by
    by_cases h1 : Rf.length = 1
    · obtain ⟨t, rfl⟩ := List.length_eq_one_iff.mp h1
      have := okRf t List.mem_cons_self
      exact ⟨this.1, by have h2 := this.2; show hi t ≤ 4; omega⟩
    · have h2 : 2 ≤ Rf.length := by
        have : 0 < Rf.length := List.length_pos_iff.mpr hne
        omega
      rw [pk_pick h2]
      refine ⟨mk_pick h2 (by omega) (by rw [wfL_eq, List.all_eq_true]; exact fun t ht => (okRf t ht).1), ?_⟩
      rw [hi]
      have := hiL_le (n := 3) fun t ht => (okRf t ht).2
      omega
  have al := alike_td _ (by omega) hw.1
  have fin : ∀ x8, b_l_law_8 [some (.scr ns), some (.str z), some (.own 0), some (.own k), some (.bl free), x5, x6, x7, some (td (pk' Rf)), x8] s2 = .ok (.rt (.bl true), s2) := fun x8 => by
    have hfr := free_td (pk' Rf)
    by_cases h5 : cellAt ns 0 % 8 = 5
    · simp [b_l_law_8, rd, al, hfr, b_l_law_9, c0, b_l_law_10, h5, three_by, hlr]
    · simp [b_l_law_8, rd, al, hfr, b_l_law_9, c0, b_l_law_10, h5]
  have h7 : ∀ x8 x9, b_l_law_6 [some (.scr ns), some (.str z), some (.own 0), some (.own k), some (.bl free), x5, x6, x7, x8, x9] s2 = .ok (.rt (.bl true), s2) := fun x8 x9 => by
    clear rd al hw okRf a2 gF a1 hf
    cases Rf with
    | nil => exact absurd rfl hne
    | cons t q =>
      cases q with
      | nil =>
        have fin : ∀ x8, b_l_law_8 [some (.scr ns), some (.str z), some (.own 0), some (.own k), some (.bl free), x5, x6, x7, some (td t), x8] s2 = .ok (.rt (.bl true), s2) := fin
        have hrf : rz s2 (.own 0) = .lst [td t] := hrf
        simp [b_l_law_6, hrf, pos, b_l_law_7, fin]
      | cons u q =>
        have fin : ∀ x8, b_l_law_8 [some (.scr ns), some (.str z), some (.own 0), some (.own k), some (.bl free), x5, x6, x7, some (td (.pick (t :: u :: q))), x8] s2 = .ok (.rt (.bl true), s2) := fin
        rw [td_pick] at fin
        have hrf : rz s2 (.own 0) = .lst (td t :: td u :: q.map td) := hrf
        have fin : ∀ x8, b_l_law_8 [some (.scr ns), some (.str z), some (.own 0), some (.own k), some (.bl free), x5, x6, x7, some (.tup [.str [112, 105, 99, 107], .tup (td t :: td u :: q.map td)]), x8] s2 = .ok (.rt (.bl true), s2) := fin
        have hgt : (1 : Int) < q.length + 1 + 1 := by omega
        have hgt0 : (0 : Int) < q.length + 1 + 1 := by omega
        simp [b_l_law_6, hrf, pos, b_l_law_7, fin, hgt, hgt0]
  simp [f_l_law, run_eq, b_l_law, b_l_law_1, b_l_law_2, b_l_law_3, b_l_law_4, hf, b_l_law_5, gF, a1, a2, h7, -mFz_eq]
end Mt
end
section
namespace Wk
open PySem L2 Snd
open PyProof.Rows (envOfC)
open Bd Mini
def topS (i : Nat) : Stmt := PySem.Challenge.pw_patternback_k04_flat_patterns.main.body.getD i (.Pass ⟨0, 0, 0, 0⟩)
abbrev cx : Nat → Addr := fun _ => 0
abbrev s_p_bare : Stmt := topS 8
abbrev s_p_row_of : Stmt := topS 11
abbrev s_p_pick_of : Stmt := topS 12
abbrev s_p_set_at : Stmt := topS 13
abbrev s_p_piece_at : Stmt := topS 14
abbrev s_p_repeated : Stmt := topS 15
abbrev s_p_closed : Stmt := topS 16
abbrev s_p_opened : Stmt := topS 17
abbrev s_p_read : Stmt := topS 18
abbrev s_l_cell_at : Stmt := topS 20
abbrev s_l_sign_by : Stmt := topS 21
abbrev s_l_three_by : Stmt := topS 22
abbrev s_l_alike : Stmt := topS 23
abbrev s_l_sign_in : Stmt := topS 24
abbrev s_l_set_by : Stmt := topS 25
abbrev s_l_piece_by : Stmt := topS 26
abbrev s_l_bracketed : Stmt := topS 27
abbrev s_l_repeated_by : Stmt := topS 28
abbrev s_l_row_tree : Stmt := topS 29
abbrev s_l_long_right : Stmt := topS 30
abbrev s_l_law : Stmt := topS 31
theorem sc_p_bare : FnScope ["tree", "part"] ["tree"] (defScope s_p_bare) := ⟨rfl, rfl, rfl, by decide +kernel, rfl, by decide +kernel, by decide +kernel⟩
theorem sc_p_row_of : FnScope ["pieces"] ["pieces"] (defScope s_p_row_of) := ⟨rfl, rfl, rfl, by decide +kernel, rfl, by decide +kernel, by decide +kernel⟩
theorem sc_p_pick_of : FnScope ["rows"] ["rows"] (defScope s_p_pick_of) := ⟨rfl, rfl, rfl, by decide +kernel, rfl, by decide +kernel, by decide +kernel⟩
theorem sc_p_set_at : FnScope ["pattern", "at", "inside", "signs"] ["pattern", "at"] (defScope s_p_set_at) := ⟨rfl, rfl, rfl, by decide +kernel, rfl, by decide +kernel, by decide +kernel⟩
theorem sc_p_piece_at : FnScope ["pattern", "at", "sign"] ["pattern", "at"] (defScope s_p_piece_at) := ⟨rfl, rfl, rfl, by decide +kernel, rfl, by decide +kernel, by decide +kernel⟩
theorem sc_p_repeated : FnScope ["sign", "ready", "pieces", "eager", "part"] ["sign", "ready", "pieces", "eager"] (defScope s_p_repeated) := ⟨rfl, rfl, rfl, by decide +kernel, rfl, by decide +kernel, by decide +kernel⟩
theorem sc_p_closed : FnScope ["frames", "last", "above", "tree"] ["frames"] (defScope s_p_closed) := ⟨rfl, rfl, rfl, by decide +kernel, rfl, by decide +kernel, by decide +kernel⟩
theorem sc_p_opened : FnScope ["frames"] ["frames"] (defScope s_p_opened) := ⟨rfl, rfl, rfl, by decide +kernel, rfl, by decide +kernel, by decide +kernel⟩
theorem sc_p_read : FnScope ["pattern", "frames", "ready", "at", "sign", "rows", "pieces", "eager", "part", "piece"] ["pattern"] (defScope s_p_read) := ⟨rfl, rfl, rfl, by decide +kernel, rfl, by decide +kernel, by decide +kernel⟩
theorem sc_l_cell_at : FnScope ["_law_script", "_law_k"] ["_law_script", "_law_k"] (defScope s_l_cell_at) := ⟨rfl, rfl, rfl, by decide +kernel, rfl, by decide +kernel, by decide +kernel⟩
theorem sc_l_sign_by : FnScope ["_law_cell", "_law_some"] ["_law_cell"] (defScope s_l_sign_by) := ⟨rfl, rfl, rfl, by decide +kernel, rfl, by decide +kernel, by decide +kernel⟩
theorem sc_l_three_by : FnScope ["_law_cell"] ["_law_cell"] (defScope s_l_three_by) := ⟨rfl, rfl, rfl, by decide +kernel, rfl, by decide +kernel, by decide +kernel⟩
theorem sc_l_alike : FnScope ["_law_found", "_law_due", "_law_k"] ["_law_found", "_law_due"] (defScope s_l_alike) := ⟨rfl, rfl, rfl, by decide +kernel, rfl, by decide +kernel, by decide +kernel⟩
theorem sc_l_sign_in : FnScope ["_law_cell", "_law_leading", "_law_sign"] ["_law_cell", "_law_leading"] (defScope s_l_sign_in) := ⟨rfl, rfl, rfl, by decide +kernel, rfl, by decide +kernel, by decide +kernel⟩
theorem sc_l_set_by : FnScope ["_law_cell", "_law_large", "_law_many", "_law_rest", "_law_told", "_law_signs", "_law_k"] ["_law_cell", "_law_large"] (defScope s_l_set_by) := ⟨rfl, rfl, rfl, by decide +kernel, rfl, by decide +kernel, by decide +kernel⟩
theorem sc_l_piece_by : FnScope ["_law_cell", "_law_large", "_law_is_free", "_law_way", "_law_rest", "_law_sign"] ["_law_cell", "_law_large", "_law_is_free"] (defScope s_l_piece_by) := ⟨rfl, rfl, rfl, by decide +kernel, rfl, by decide +kernel, by decide +kernel⟩
theorem sc_l_bracketed : FnScope ["_law_piece", "_law_way", "_law_many"] ["_law_piece", "_law_way"] (defScope s_l_bracketed) := ⟨rfl, rfl, rfl, by decide +kernel, rfl, by decide +kernel, by decide +kernel⟩
theorem sc_l_repeated_by : FnScope ["_law_piece", "_law_way", "_law_sign", "_law_kind"] ["_law_piece", "_law_way"] (defScope s_l_repeated_by) := ⟨rfl, rfl, rfl, by decide +kernel, rfl, by decide +kernel, by decide +kernel⟩
theorem sc_l_row_tree : FnScope ["_law_pieces"] ["_law_pieces"] (defScope s_l_row_tree) := ⟨rfl, rfl, rfl, by decide +kernel, rfl, by decide +kernel, by decide +kernel⟩
theorem sc_l_long_right : FnScope ["_law_many", "_law_three", "_law_signs", "_law_k", "_law_told", "_law_sign"] ["_law_many", "_law_three"] (defScope s_l_long_right) := ⟨rfl, rfl, rfl, by decide +kernel, rfl, by decide +kernel, by decide +kernel⟩
theorem sc_l_law : FnScope ["_law_script", "_law_told", "_law_parts", "_law_pieces", "_law_is_free", "_law_cell", "_law_way", "_law_piece", "_law_due", "_law_first_cell"] ["_law_script"] (defScope s_l_law) := ⟨rfl, rfl, rfl, by decide +kernel, rfl, by decide +kernel, by decide +kernel⟩
structure Tx (K : PySem.W.Frag) (mg : Str → Option Value) where
  a_p_bare : Addr
  d_p_bare : FuncData
  a_p_row_of : Addr
  d_p_row_of : FuncData
  a_p_pick_of : Addr
  d_p_pick_of : FuncData
  a_p_set_at : Addr
  d_p_set_at : FuncData
  a_p_piece_at : Addr
  d_p_piece_at : FuncData
  a_p_repeated : Addr
  d_p_repeated : FuncData
  a_p_closed : Addr
  d_p_closed : FuncData
  a_p_opened : Addr
  d_p_opened : FuncData
  a_p_read : Addr
  d_p_read : FuncData
  a_l_cell_at : Addr
  d_l_cell_at : FuncData
  a_l_sign_by : Addr
  d_l_sign_by : FuncData
  a_l_three_by : Addr
  d_l_three_by : FuncData
  a_l_alike : Addr
  d_l_alike : FuncData
  a_l_sign_in : Addr
  d_l_sign_in : FuncData
  a_l_set_by : Addr
  d_l_set_by : FuncData
  a_l_piece_by : Addr
  d_l_piece_by : FuncData
  a_l_bracketed : Addr
  d_l_bracketed : FuncData
  a_l_repeated_by : Addr
  d_l_repeated_by : FuncData
  a_l_row_tree : Addr
  d_l_row_tree : FuncData
  a_l_long_right : Addr
  d_l_long_right : FuncData
  a_l_law : Addr
  d_l_law : FuncData
  F_p_bare : Fun K "bare" "bare" s_p_bare a_p_bare d_p_bare
  m_p_bare : mg "bare" = some (.ref a_p_bare)
  b_p_bare : Binds K d_p_bare ["tree"] []
  F_p_row_of : Fun K "row_of" "row_of" s_p_row_of a_p_row_of d_p_row_of
  m_p_row_of : mg "row_of" = some (.ref a_p_row_of)
  b_p_row_of : Binds K d_p_row_of ["pieces"] []
  F_p_pick_of : Fun K "pick_of" "pick_of" s_p_pick_of a_p_pick_of d_p_pick_of
  m_p_pick_of : mg "pick_of" = some (.ref a_p_pick_of)
  b_p_pick_of : Binds K d_p_pick_of ["rows"] []
  F_p_set_at : Fun K "set_at" "set_at" s_p_set_at a_p_set_at d_p_set_at
  m_p_set_at : mg "set_at" = some (.ref a_p_set_at)
  b_p_set_at : Binds K d_p_set_at ["pattern", "at"] []
  F_p_piece_at : Fun K "piece_at" "piece_at" s_p_piece_at a_p_piece_at d_p_piece_at
  m_p_piece_at : mg "piece_at" = some (.ref a_p_piece_at)
  b_p_piece_at : Binds K d_p_piece_at ["pattern", "at"] []
  F_p_repeated : Fun K "repeated" "repeated" s_p_repeated a_p_repeated d_p_repeated
  m_p_repeated : mg "repeated" = some (.ref a_p_repeated)
  b_p_repeated : Binds K d_p_repeated ["sign", "ready", "pieces", "eager"] []
  F_p_closed : Fun K "closed" "closed" s_p_closed a_p_closed d_p_closed
  m_p_closed : mg "closed" = some (.ref a_p_closed)
  b_p_closed : Binds K d_p_closed ["frames"] []
  F_p_opened : Fun K "opened" "opened" s_p_opened a_p_opened d_p_opened
  m_p_opened : mg "opened" = some (.ref a_p_opened)
  b_p_opened : Binds K d_p_opened ["frames"] []
  F_p_read : Fun K "read" "read" s_p_read a_p_read d_p_read
  m_p_read : mg "read" = some (.ref a_p_read)
  b_p_read : Binds K d_p_read ["pattern"] []
  F_l_cell_at : Fun K "_law_cell_at" "_law_cell_at" s_l_cell_at a_l_cell_at d_l_cell_at
  m_l_cell_at : mg "_law_cell_at" = some (.ref a_l_cell_at)
  b_l_cell_at : Binds K d_l_cell_at ["_law_script", "_law_k"] []
  F_l_sign_by : Fun K "_law_sign_by" "_law_sign_by" s_l_sign_by a_l_sign_by d_l_sign_by
  m_l_sign_by : mg "_law_sign_by" = some (.ref a_l_sign_by)
  b_l_sign_by : Binds K d_l_sign_by ["_law_cell"] []
  F_l_three_by : Fun K "_law_three_by" "_law_three_by" s_l_three_by a_l_three_by d_l_three_by
  m_l_three_by : mg "_law_three_by" = some (.ref a_l_three_by)
  b_l_three_by : Binds K d_l_three_by ["_law_cell"] []
  F_l_alike : Fun K "_law_alike" "_law_alike" s_l_alike a_l_alike d_l_alike
  m_l_alike : mg "_law_alike" = some (.ref a_l_alike)
  b_l_alike : Binds K d_l_alike ["_law_found", "_law_due"] []
  F_l_sign_in : Fun K "_law_sign_in" "_law_sign_in" s_l_sign_in a_l_sign_in d_l_sign_in
  m_l_sign_in : mg "_law_sign_in" = some (.ref a_l_sign_in)
  b_l_sign_in : Binds K d_l_sign_in ["_law_cell", "_law_leading"] []
  F_l_set_by : Fun K "_law_set_by" "_law_set_by" s_l_set_by a_l_set_by d_l_set_by
  m_l_set_by : mg "_law_set_by" = some (.ref a_l_set_by)
  b_l_set_by : Binds K d_l_set_by ["_law_cell", "_law_large"] []
  F_l_piece_by : Fun K "_law_piece_by" "_law_piece_by" s_l_piece_by a_l_piece_by d_l_piece_by
  m_l_piece_by : mg "_law_piece_by" = some (.ref a_l_piece_by)
  b_l_piece_by : Binds K d_l_piece_by ["_law_cell", "_law_large", "_law_is_free"] []
  F_l_bracketed : Fun K "_law_bracketed" "_law_bracketed" s_l_bracketed a_l_bracketed d_l_bracketed
  m_l_bracketed : mg "_law_bracketed" = some (.ref a_l_bracketed)
  b_l_bracketed : Binds K d_l_bracketed ["_law_piece", "_law_way"] []
  F_l_repeated_by : Fun K "_law_repeated_by" "_law_repeated_by" s_l_repeated_by a_l_repeated_by d_l_repeated_by
  m_l_repeated_by : mg "_law_repeated_by" = some (.ref a_l_repeated_by)
  b_l_repeated_by : Binds K d_l_repeated_by ["_law_piece", "_law_way"] []
  F_l_row_tree : Fun K "_law_row_tree" "_law_row_tree" s_l_row_tree a_l_row_tree d_l_row_tree
  m_l_row_tree : mg "_law_row_tree" = some (.ref a_l_row_tree)
  b_l_row_tree : Binds K d_l_row_tree ["_law_pieces"] []
  F_l_long_right : Fun K "_law_long_right" "_law_long_right" s_l_long_right a_l_long_right d_l_long_right
  m_l_long_right : mg "_law_long_right" = some (.ref a_l_long_right)
  b_l_long_right : Binds K d_l_long_right ["_law_many", "_law_three"] []
  F_l_law : Fun K "law" "law" s_l_law a_l_law d_l_law
  m_l_law : mg "law" = some (.ref a_l_law)
  b_l_law : Binds K d_l_law ["_law_script"] []
  n_all : mg "all" = none
  n_any : mg "any" = none
  n_bool : mg "bool" = none
  n_int : mg "int" = none
  n_isinstance : mg "isinstance" = none
  n_len : mg "len" = none
  n_range : mg "range" = none
  n_str : mg "str" = none
  n_tuple : mg "tuple" = none
  t_DEEPEST : Tok
  c_DEEPEST : mg "DEEPEST" = some (.int 30 t_DEEPEST)
section
variable {P : Program} {w : World} {K : PySem.W.Frag} {mg : Str → Option Value} {base : Heap}
theorem st_p_bare (T : Tx K mg) {n : Nat} {r_p_bare : List D → R D} (G_p_bare : FnOk P w K mg base CX0 (0 + n) T.a_p_bare T.d_p_bare ["tree"] (spP K cx 1 r_p_bare)) : FnOk P w K mg base CX0 (0 + n + 1) T.a_p_bare T.d_p_bare ["tree"] (spP K cx 1 fun ds => (run 2 (b_p_bare r_p_bare) ds).nox) :=
  fn_P (C := cx) (N := ["tree", "part"]) (ps := ["tree"]) (k := 0 + n) (m := b_p_bare r_p_bare) T.F_p_bare sc_p_bare fun cdv A outer s H E hr => by
    have hu := hr.units
    exact (ss_cons (sm_if (tm_cmp (sem_eq hu) (pm_ix (pm_v (pv 0)) pm_int) pm_str (nomark _)) (ss_one (sm_ret pm_bl)) ss_nil)
    (ss_cons (sm_if (tm_cmp (sem_eq hu) (pm_ix (pm_v (pv 0)) pm_int) pm_str (nomark _)) (ss_one (sm_ret (pm_b1 (sem_all rfl) (by rfl) T.n_all (by decide +kernel) (pm_lc (x := "part") rfl (sc_p_bare).nd (im_seq (pm_ix (pm_v (pv 0)) pm_int)) (blkOk_by (N := ["tree", "part"]) (sc := defScope s_p_bare) (by decide +kernel)) (fun _ _ _ _ _ => pg_name (i := 1) (sc_p_bare).nd rfl (Or.inl rfl)) (fun _ _ _ _ _ => sts_nil) (fun _ _ _ _ _ => (pm_call (C := cx) G_p_bare hr (by rfl) T.m_p_bare T.F_p_bare.kp T.b_p_bare pass0 (fun _ _ _ z => z.elim) (am_cons (pm_v (pv 1)) am_nil) (alen_cons alen_nil))))))) ss_nil)
    (ss_cons (sm_if (tm_cmp (sem_eq hu) (pm_ix (pm_v (pv 0)) pm_int) pm_str (nomark _)) (ss_one (sm_ret (pm_b1 (sem_any rfl) (by rfl) T.n_any (by decide +kernel) (pm_lc (x := "part") rfl (sc_p_bare).nd (im_seq (pm_ix (pm_v (pv 0)) pm_int)) (blkOk_by (N := ["tree", "part"]) (sc := defScope s_p_bare) (by decide +kernel)) (fun _ _ _ _ _ => pg_name (i := 1) (sc_p_bare).nd rfl (Or.inl rfl)) (fun _ _ _ _ _ => sts_nil) (fun _ _ _ _ _ => (pm_call (C := cx) G_p_bare hr (by rfl) T.m_p_bare T.F_p_bare.kp T.b_p_bare pass0 (fun _ _ _ z => z.elim) (am_cons (pm_v (pv 1)) am_nil) (alen_cons alen_nil))))))) ss_nil)
    (ss_one (sm_ret pm_bl)))))
theorem all_p_bare (T : Tx K mg) (n : Nat) : FnOk P w K mg base CX0 (0 + n) T.a_p_bare T.d_p_bare ["tree"] (spP K cx 1 (f_p_bare n)) := by
  induction n with
  | zero => exact fn_none (C := cx) (φ := f_p_bare 0) (fun _ => by rw [f_p_bare])
  | succ n ih => exact (by rw [f_p_bare]; exact st_p_bare T ih)
theorem ok_p_bare (T : Tx K mg) (n : Nat) : FnOk P w K mg base CX0 (0 + n) T.a_p_bare T.d_p_bare ["tree"] (spP K cx 1 (f_p_bare n)) := (all_p_bare T n)
theorem ok_p_row_of (T : Tx K mg) : FnOk P w K mg base CX0 1 T.a_p_row_of T.d_p_row_of ["pieces"] (spP K cx 1 f_p_row_of) :=
  fn_P (C := cx) (N := ["pieces"]) (ps := ["pieces"]) (k := 0) (m := b_p_row_of) T.F_p_row_of sc_p_row_of fun cdv A outer s H E hr => by
    have hu := hr.units
    exact (ss_cons (sm_if (tm_cmp (sem_eq hu) (pm_b1 sem_len (by rfl) T.n_len (by decide +kernel) (pm_v (pv 0))) pm_int (nomark _)) (ss_one (sm_ret (pm_ix (pm_v (pv 0)) pm_int))) ss_nil)
    (ss_one (sm_ret (pm_tup (am_cons pm_str (am_cons (pm_t1 sem_tup (by rfl) T.n_tuple (by decide +kernel) (pm_v (pv 0))) am_nil))))))
theorem ok_p_pick_of (T : Tx K mg) : FnOk P w K mg base CX0 1 T.a_p_pick_of T.d_p_pick_of ["rows"] (spP K cx 1 f_p_pick_of) :=
  fn_P (C := cx) (N := ["rows"]) (ps := ["rows"]) (k := 0) (m := b_p_pick_of) T.F_p_pick_of sc_p_pick_of fun cdv A outer s H E hr => by
    have hu := hr.units
    exact (ss_cons (sm_if (tm_cmp (sem_eq hu) (pm_b1 sem_len (by rfl) T.n_len (by decide +kernel) (pm_v (pv 0))) pm_int (nomark _)) (ss_one (sm_ret (pm_ix (pm_v (pv 0)) pm_int))) ss_nil)
    (ss_one (sm_ret (pm_tup (am_cons pm_str (am_cons (pm_t1 sem_tup (by rfl) T.n_tuple (by decide +kernel) (pm_v (pv 0))) am_nil))))))
theorem ok_p_set_at (T : Tx K mg) : FnOk P w K mg base CX0 1 T.a_p_set_at T.d_p_set_at ["pattern", "at"] (spP K cx 2 f_p_set_at) :=
  fn_P (C := cx) (N := ["pattern", "at", "inside", "signs"]) (ps := ["pattern", "at"]) (k := 0) (m := b_p_set_at) T.F_p_set_at sc_p_set_at fun cdv A outer s H E hr => by
    have hu := hr.units
    exact (ss_cons (sm_set (i := 2) (sc_p_set_at).nd rfl (.inl rfl) pm_bl)
    (ss_cons (sm_set (i := 3) (sc_p_set_at).nd rfl (.inl rfl) pm_str)
    (ss_cons (sm_if (tm_cmp (sem_eq hu) (pm_sl (pm_v (pv 0)) (om_s (pm_v (pv 1))) (om_s (pm_op sem_add (pm_v (pv 1)) pm_int))) pm_str (nomark _)) (ss_cons (sm_set (i := 2) (sc_p_set_at).nd rfl (.inl rfl) pm_bl)
    (ss_one (sm_set (i := 1) (sc_p_set_at).nd rfl (.inl rfl) (pm_op sem_add (pm_v (pv 1)) pm_int)))) ss_nil)
    (ss_cons (sm_while PassesOwn.never (tm_cmp (sem_ne hu) (pm_sl (pm_v (pv 0)) (om_s (pm_v (pv 1))) (om_s (pm_op sem_add (pm_v (pv 1)) pm_int))) pm_str (nomark _)) (ss_cons (sm_if (tm_cmp (sem_eq hu) (pm_sl (pm_v (pv 0)) (om_s (pm_v (pv 1))) (om_s (pm_op sem_add (pm_v (pv 1)) pm_int))) pm_str (nomark _)) (ss_one (sm_set (i := 1) (sc_p_set_at).nd rfl (.inl rfl) (pm_op sem_add (pm_v (pv 1)) pm_int))) ss_nil)
    (ss_cons (sm_if (tm_cmp sem_ge (pm_v (pv 1)) (pm_b1 sem_len (by rfl) T.n_len (by decide +kernel) (pm_v (pv 0))) (nomark _)) (ss_one sm_bad) ss_nil)
    (ss_cons (sm_set (i := 3) (sc_p_set_at).nd rfl (.inl rfl) (pm_op sem_add (pm_v (pv 3)) (pm_ix (pm_v (pv 0)) (pm_v (pv 1)))))
    (ss_one (sm_set (i := 1) (sc_p_set_at).nd rfl (.inl rfl) (pm_op sem_add (pm_v (pv 1)) pm_int)))))))
    (ss_one (sm_ret (pm_tup (am_cons (pm_tup (am_cons pm_str (am_cons (pm_v (pv 2)) (am_cons (pm_v (pv 3)) am_nil)))) (am_cons (pm_op sem_add (pm_v (pv 1)) pm_int) am_nil)))))))))
theorem ok_p_piece_at (T : Tx K mg) : FnOk P w K mg base CX0 2 T.a_p_piece_at T.d_p_piece_at ["pattern", "at"] (spP K cx 2 f_p_piece_at) :=
  fn_P (C := cx) (N := ["pattern", "at", "sign"]) (ps := ["pattern", "at"]) (k := 1) (m := b_p_piece_at) T.F_p_piece_at sc_p_piece_at fun cdv A outer s H E hr => by
    have hu := hr.units
    exact (ss_cons (sm_set (i := 2) (sc_p_piece_at).nd rfl (.inl rfl) (pm_ix (pm_v (pv 0)) (pm_v (pv 1))))
    (ss_cons (sm_if (tm_cmp (sem_eq hu) (pm_v (pv 2)) pm_str (nomark _)) (ss_one sm_bad) ss_nil)
    (ss_cons (sm_if (tm_cmp (sem_eq hu) (pm_v (pv 2)) pm_str (nomark _)) (ss_one (sm_ret (pm_call (C := cx) (ok_p_set_at T) (hr.mono (by decide)) (by rfl) T.m_p_set_at T.F_p_set_at.kp T.b_p_set_at pass0 (fun _ _ _ z => z.elim) (am_cons (pm_v (pv 0)) (am_cons (pm_op sem_add (pm_v (pv 1)) pm_int) am_nil)) (alen_cons (alen_cons alen_nil))))) ss_nil)
    (ss_cons (sm_if (tm_cmp (sem_eq hu) (pm_v (pv 2)) pm_str (nomark _)) (ss_one (sm_ret (pm_tup (am_cons (pm_tup (am_cons pm_str (am_cons pm_bl (am_cons pm_str am_nil)))) (am_cons (pm_op sem_add (pm_v (pv 1)) pm_int) am_nil))))) ss_nil)
    (ss_cons (sm_if (tm_cmp (sem_eq hu) (pm_v (pv 2)) pm_str (nomark _)) (ss_cons (sm_if (tm_cmp sem_ge (pm_op sem_add (pm_v (pv 1)) pm_int) (pm_b1 sem_len (by rfl) T.n_len (by decide +kernel) (pm_v (pv 0))) (nomark _)) (ss_one sm_bad) ss_nil)
    (ss_one (sm_ret (pm_tup (am_cons (pm_tup (am_cons pm_str (am_cons pm_bl (am_cons (pm_ix (pm_v (pv 0)) (pm_op sem_add (pm_v (pv 1)) pm_int)) am_nil)))) (am_cons (pm_op sem_add (pm_v (pv 1)) pm_int) am_nil)))))) ss_nil)
    (ss_one (sm_ret (pm_tup (am_cons (pm_tup (am_cons pm_str (am_cons pm_bl (am_cons (pm_v (pv 2)) am_nil)))) (am_cons (pm_op sem_add (pm_v (pv 1)) pm_int) am_nil))))))))))
theorem ok_p_repeated (T : Tx K mg) : FnOk P w K mg base CX0 201 T.a_p_repeated T.d_p_repeated ["sign", "ready", "pieces", "eager"] (spP K cx 4 f_p_repeated) :=
  fn_P (C := cx) (N := ["sign", "ready", "pieces", "eager", "part"]) (ps := ["sign", "ready", "pieces", "eager"]) (k := 200) (m := b_p_repeated) T.F_p_repeated sc_p_repeated fun cdv A outer s H E hr => by
    have hu := hr.units
    exact (ss_cons (sm_if (tm_not (tm_truth (pm_v (pv 1)))) (ss_one sm_bad) ss_nil)
    (ss_cons (sm_set (i := 4) (sc_p_repeated).nd rfl (.inl rfl) (pm_ix (pm_v (pv 2)) (pm_neg pm_int)))
    (ss_cons (sm_if (tm_cmp (sem_eq hu) (pm_v (pv 0)) pm_str (nomark _)) (ss_one (sm_ret (pm_tup (am_cons pm_str (am_cons (pm_v (pv 4)) (am_cons (pm_v (pv 3)) am_nil)))))) ss_nil)
    (ss_cons (sm_if (tm_truth (pm_call (C := cx) (ok_p_bare T 200) (hr.mono (by decide)) (by rfl) T.m_p_bare T.F_p_bare.kp T.b_p_bare pass0 (fun _ _ _ z => z.elim) (am_cons (pm_v (pv 4)) am_nil) (alen_cons alen_nil))) (ss_one sm_bad) ss_nil)
    (ss_one (sm_ret (pm_tup (am_cons pm_str (am_cons (pm_v (pv 4)) (am_cons (pm_v (pv 3)) am_nil))))))))))
theorem ok_p_closed (T : Tx K mg) : FnOk P w K mg base CX0 2 T.a_p_closed T.d_p_closed ["frames"] (spP K cx 1 f_p_closed) :=
  fn_P (C := cx) (N := ["frames", "last", "above", "tree"]) (ps := ["frames"]) (k := 1) (m := b_p_closed) T.F_p_closed sc_p_closed fun cdv A outer s H E hr => by
    have hu := hr.units
    exact (ss_cons (sm_if (tm_cmp (sem_eq hu) (pm_b1 sem_len (by rfl) T.n_len (by decide +kernel) (pm_v (pv 0))) pm_int (nomark _)) (ss_one sm_bad) ss_nil)
    (ss_cons (sm_set (i := 1) (sc_p_closed).nd rfl (.inl rfl) (pm_ix (pm_v (pv 0)) (pm_neg pm_int)))
    (ss_cons (sm_set (i := 2) (sc_p_closed).nd rfl (.inl rfl) (pm_ix (pm_v (pv 0)) (pm_neg pm_int)))
    (ss_cons (sm_set (i := 3) (sc_p_closed).nd rfl (.inl rfl) (pm_call (C := cx) (ok_p_pick_of T) (hr.mono (by decide)) (by rfl) T.m_p_pick_of T.F_p_pick_of.kp T.b_p_pick_of pass0 (fun _ _ _ z => z.elim) (am_cons (pm_op sem_add (pm_ix (pm_v (pv 1)) pm_int) (pm_lst (am_cons (pm_call (C := cx) (ok_p_row_of T) (hr.mono (by decide)) (by rfl) T.m_p_row_of T.F_p_row_of.kp T.b_p_row_of pass0 (fun _ _ _ z => z.elim) (am_cons (pm_ix (pm_v (pv 1)) pm_int) am_nil) (alen_cons alen_nil)) am_nil))) am_nil) (alen_cons alen_nil)))
    (ss_one (sm_ret (pm_op sem_add (pm_sl (pm_v (pv 0)) om_n (om_s (pm_neg pm_int))) (pm_lst (am_cons (pm_tup (am_cons (pm_ix (pm_v (pv 2)) pm_int) (am_cons (pm_op sem_add (pm_ix (pm_v (pv 2)) pm_int) (pm_lst (am_cons (pm_v (pv 3)) am_nil))) am_nil))) am_nil)))))))))
theorem ok_p_opened (T : Tx K mg) : FnOk P w K mg base CX0 1 T.a_p_opened T.d_p_opened ["frames"] (spP K cx 1 f_p_opened) :=
  fn_P (C := cx) (N := ["frames"]) (ps := ["frames"]) (k := 0) (m := b_p_opened) T.F_p_opened sc_p_opened fun cdv A outer s H E hr => by
    have hu := hr.units
    exact (ss_cons (sm_if (tm_cmp sem_gt (pm_b1 sem_len (by rfl) T.n_len (by decide +kernel) (pm_v (pv 0))) (pm_globI (by rfl) T.c_DEEPEST) (nomark _)) (ss_one sm_bad) ss_nil)
    (ss_one (sm_ret (pm_op sem_add (pm_v (pv 0)) (pm_lst (am_cons (pm_tup (am_cons (pm_lst am_nil) (am_cons (pm_lst am_nil) am_nil))) am_nil))))))
theorem ok_p_read (T : Tx K mg) : FnOk P w K mg base CX0 202 T.a_p_read T.d_p_read ["pattern"] (spP K cx 1 f_p_read) :=
  fn_P (C := cx) (N := ["pattern", "frames", "ready", "at", "sign", "rows", "pieces", "eager", "part", "piece"]) (ps := ["pattern"]) (k := 201) (m := b_p_read) T.F_p_read sc_p_read fun cdv A outer s H E hr => by
    have hu := hr.units
    exact (ss_cons (sm_set (i := 1) (sc_p_read).nd rfl (.inl rfl) (pm_lst (am_cons (pm_tup (am_cons (pm_lst am_nil) (am_cons (pm_lst am_nil) am_nil))) am_nil)))
    (ss_cons (sm_set (i := 2) (sc_p_read).nd rfl (.inl rfl) pm_bl)
    (ss_cons (sm_set (i := 3) (sc_p_read).nd rfl (.inl rfl) pm_int)
    (ss_cons (sm_while PassesOwn.never (tm_cmp sem_lt (pm_v (pv 3)) (pm_b1 sem_len (by rfl) T.n_len (by decide +kernel) (pm_v (pv 0))) (nomark _)) (ss_cons (sm_set (i := 4) (sc_p_read).nd rfl (.inl rfl) (pm_ix (pm_v (pv 0)) (pm_v (pv 3))))
    (ss_cons (sm_set (i := 5) (sc_p_read).nd rfl (.inl rfl) (pm_ix (pm_ix (pm_v (pv 1)) (pm_neg pm_int)) pm_int))
    (ss_cons (sm_set (i := 6) (sc_p_read).nd rfl (.inl rfl) (pm_ix (pm_ix (pm_v (pv 1)) (pm_neg pm_int)) pm_int))
    (ss_cons (sm_if (tm_cmp (sem_eq hu) (pm_v (pv 4)) pm_str (nomark _)) (ss_one (sm_set (i := 1) (sc_p_read).nd rfl (.inl rfl) (pm_call (C := cx) (ok_p_opened T) (hr.mono (by decide)) (by rfl) T.m_p_opened T.F_p_opened.kp T.b_p_opened pass0 (fun _ _ _ z => z.elim) (am_cons (pm_v (pv 1)) am_nil) (alen_cons alen_nil)))) (ss_one (sm_if (tm_cmp (sem_eq hu) (pm_v (pv 4)) pm_str (nomark _)) (ss_one (sm_set (i := 1) (sc_p_read).nd rfl (.inl rfl) (pm_call (C := cx) (ok_p_closed T) (hr.mono (by decide)) (by rfl) T.m_p_closed T.F_p_closed.kp T.b_p_closed pass0 (fun _ _ _ z => z.elim) (am_cons (pm_v (pv 1)) am_nil) (alen_cons alen_nil)))) (ss_one (sm_if (tm_cmp (sem_eq hu) (pm_v (pv 4)) pm_str (nomark _)) (ss_one (sm_set (i := 1) (sc_p_read).nd rfl (.inl rfl) (pm_op sem_add (pm_sl (pm_v (pv 1)) om_n (om_s (pm_neg pm_int))) (pm_lst (am_cons (pm_tup (am_cons (pm_op sem_add (pm_v (pv 5)) (pm_lst (am_cons (pm_call (C := cx) (ok_p_row_of T) (hr.mono (by decide)) (by rfl) T.m_p_row_of T.F_p_row_of.kp T.b_p_row_of pass0 (fun _ _ _ z => z.elim) (am_cons (pm_v (pv 6)) am_nil) (alen_cons alen_nil)) am_nil))) (am_cons (pm_lst am_nil) am_nil))) am_nil))))) (ss_one (sm_if (PW.pt (wm_or (tm_cmp (sem_eq hu) (pm_v (pv 4)) pm_str (nomark _)) (wm_or1 (tm_cmp (sem_eq hu) (pm_v (pv 4)) pm_str (nomark _))))) (ss_cons (sm_set (i := 7) (sc_p_read).nd rfl (.inl rfl) (pm_cmp (sem_ne hu) (pm_sl (pm_v (pv 0)) (om_s (pm_op sem_add (pm_v (pv 3)) pm_int)) (om_s (pm_op sem_add (pm_v (pv 3)) pm_int))) pm_str (nomark _)))
    (ss_cons (sm_set (i := 8) (sc_p_read).nd rfl (.inl rfl) (pm_call (C := cx) (ok_p_repeated T) (hr.mono (by decide)) (by rfl) T.m_p_repeated T.F_p_repeated.kp T.b_p_repeated pass0 (fun _ _ _ z => z.elim) (am_cons (pm_v (pv 4)) (am_cons (pm_v (pv 2)) (am_cons (pm_v (pv 6)) (am_cons (pm_v (pv 7)) am_nil)))) (alen_cons (alen_cons (alen_cons (alen_cons alen_nil))))))
    (ss_cons (sm_set (i := 1) (sc_p_read).nd rfl (.inl rfl) (pm_op sem_add (pm_sl (pm_v (pv 1)) om_n (om_s (pm_neg pm_int))) (pm_lst (am_cons (pm_tup (am_cons (pm_v (pv 5)) (am_cons (pm_op sem_add (pm_sl (pm_v (pv 6)) om_n (om_s (pm_neg pm_int))) (pm_lst (am_cons (pm_v (pv 8)) am_nil))) am_nil))) am_nil))))
    (ss_one (sm_if (tm_not (tm_truth (pm_v (pv 7)))) (ss_one (sm_set (i := 3) (sc_p_read).nd rfl (.inl rfl) (pm_op sem_add (pm_v (pv 3)) pm_int))) ss_nil))))) (ss_cons (sm_set (i := 9) (sc_p_read).nd rfl (.inl rfl) (pm_call (C := cx) (ok_p_piece_at T) (hr.mono (by decide)) (by rfl) T.m_p_piece_at T.F_p_piece_at.kp T.b_p_piece_at pass0 (fun _ _ _ z => z.elim) (am_cons (pm_v (pv 0)) (am_cons (pm_v (pv 3)) am_nil)) (alen_cons (alen_cons alen_nil))))
    (ss_cons (sm_set (i := 1) (sc_p_read).nd rfl (.inl rfl) (pm_op sem_add (pm_sl (pm_v (pv 1)) om_n (om_s (pm_neg pm_int))) (pm_lst (am_cons (pm_tup (am_cons (pm_v (pv 5)) (am_cons (pm_op sem_add (pm_v (pv 6)) (pm_lst (am_cons (pm_ix (pm_v (pv 9)) pm_int) am_nil))) am_nil))) am_nil))))
    (ss_one (sm_set (i := 3) (sc_p_read).nd rfl (.inl rfl) (pm_op sem_sub (pm_ix (pm_v (pv 9)) pm_int) pm_int))))))))))))
    (ss_cons (sm_set (i := 2) (sc_p_read).nd rfl (.inl rfl) (pm_cmp (sem_nin hu) (pm_v (pv 4)) pm_str (by rfl)))
    (ss_one (sm_set (i := 3) (sc_p_read).nd rfl (.inl rfl) (pm_op sem_add (pm_v (pv 3)) pm_int)))))))))
    (ss_cons (sm_if (tm_cmp sem_gt (pm_b1 sem_len (by rfl) T.n_len (by decide +kernel) (pm_v (pv 1))) pm_int (nomark _)) (ss_one sm_bad) ss_nil)
    (ss_one (sm_ret (pm_call (C := cx) (ok_p_pick_of T) (hr.mono (by decide)) (by rfl) T.m_p_pick_of T.F_p_pick_of.kp T.b_p_pick_of pass0 (fun _ _ _ z => z.elim) (am_cons (pm_op sem_add (pm_ix (pm_ix (pm_v (pv 1)) pm_int) pm_int) (pm_lst (am_cons (pm_call (C := cx) (ok_p_row_of T) (hr.mono (by decide)) (by rfl) T.m_p_row_of T.F_p_row_of.kp T.b_p_row_of pass0 (fun _ _ _ z => z.elim) (am_cons (pm_ix (pm_ix (pm_v (pv 1)) pm_int) pm_int) am_nil) (alen_cons alen_nil)) am_nil))) am_nil) (alen_cons alen_nil)))))))))
theorem ok_l_cell_at (T : Tx K mg) : FnOk P w K mg base CX0 1 T.a_l_cell_at T.d_l_cell_at ["_law_script", "_law_k"] (spP K cx 2 f_l_cell_at) :=
  fn_P (C := cx) (N := ["_law_script", "_law_k"]) (ps := ["_law_script", "_law_k"]) (k := 0) (m := b_l_cell_at) T.F_l_cell_at sc_l_cell_at fun cdv A outer s H E hr => by
    have hu := hr.units
    exact (ss_cons (sm_if (tm_cmp sem_lt (pm_v (pv 1)) (pm_b1 sem_len (by rfl) T.n_len (by decide +kernel) (pm_v (pv 0))) (nomark _)) (ss_one (sm_ret (pm_ix (pm_v (pv 0)) (pm_v (pv 1))))) ss_nil)
    (ss_one (sm_ret pm_int)))
theorem ok_l_sign_by (T : Tx K mg) : FnOk P w K mg base CX0 1 T.a_l_sign_by T.d_l_sign_by ["_law_cell"] (spP K cx 1 f_l_sign_by) :=
  fn_P (C := cx) (N := ["_law_cell", "_law_some"]) (ps := ["_law_cell"]) (k := 0) (m := b_l_sign_by) T.F_l_sign_by sc_l_sign_by fun cdv A outer s H E hr => by
    have hu := hr.units
    exact (ss_cons (sm_set (i := 1) (sc_l_sign_by).nd rfl (.inl rfl) pm_str)
    (ss_cons (sm_set (i := 1) (sc_l_sign_by).nd rfl (.inl rfl) (pm_op sem_add (pm_v (pv 1)) pm_str))
    (ss_one (sm_ret (pm_ix (pm_v (pv 1)) (pm_op sem_mod (pm_v (pv 0)) pm_int))))))
theorem ok_l_three_by (T : Tx K mg) : FnOk P w K mg base CX0 2 T.a_l_three_by T.d_l_three_by ["_law_cell"] (spP K cx 1 f_l_three_by) :=
  fn_P (C := cx) (N := ["_law_cell"]) (ps := ["_law_cell"]) (k := 1) (m := b_l_three_by) T.F_l_three_by sc_l_three_by fun cdv A outer s H E hr => by
    have hu := hr.units
    exact (ss_one (sm_ret (pm_op sem_add (pm_op sem_add (pm_call (C := cx) (ok_l_sign_by T) (hr.mono (by decide)) (by rfl) T.m_l_sign_by T.F_l_sign_by.kp T.b_l_sign_by pass0 (fun _ _ _ z => z.elim) (am_cons (pm_v (pv 0)) am_nil) (alen_cons alen_nil)) (pm_call (C := cx) (ok_l_sign_by T) (hr.mono (by decide)) (by rfl) T.m_l_sign_by T.F_l_sign_by.kp T.b_l_sign_by pass0 (fun _ _ _ z => z.elim) (am_cons (pm_op sem_add (pm_v (pv 0)) pm_int) am_nil) (alen_cons alen_nil))) (pm_call (C := cx) (ok_l_sign_by T) (hr.mono (by decide)) (by rfl) T.m_l_sign_by T.F_l_sign_by.kp T.b_l_sign_by pass0 (fun _ _ _ z => z.elim) (am_cons (pm_op sem_add (pm_v (pv 0)) pm_int) am_nil) (alen_cons alen_nil)))))
theorem st_l_alike (T : Tx K mg) {n : Nat} {r_l_alike : List D → R D} (G_l_alike : FnOk P w K mg base CX0 (0 + n) T.a_l_alike T.d_l_alike ["_law_found", "_law_due"] (spP K cx 2 r_l_alike)) : FnOk P w K mg base CX0 (0 + n + 1) T.a_l_alike T.d_l_alike ["_law_found", "_law_due"] (spP K cx 2 fun ds => (run 3 (b_l_alike r_l_alike) ds).nox) :=
  fn_P (C := cx) (N := ["_law_found", "_law_due", "_law_k"]) (ps := ["_law_found", "_law_due"]) (k := 0 + n) (m := b_l_alike r_l_alike) T.F_l_alike sc_l_alike fun cdv A outer s H E hr => by
    have hu := hr.units
    exact (ss_cons (sm_if (tm_truth (pm_isi (by rfl) T.n_isinstance (by rfl) T.n_tuple (pm_v (pv 1)))) (ss_cons (sm_if (PW.pt (wm_or (tm_not (tm_truth (pm_isi (by rfl) T.n_isinstance (by rfl) T.n_tuple (pm_v (pv 0))))) (wm_or1 (tm_cmp (sem_ne hu) (pm_b1 sem_len (by rfl) T.n_len (by decide +kernel) (pm_v (pv 0))) (pm_b1 sem_len (by rfl) T.n_len (by decide +kernel) (pm_v (pv 1))) (nomark _))))) (ss_one (sm_ret pm_bl)) ss_nil)
    (ss_one (sm_ret (pm_b1 (sem_all rfl) (by rfl) T.n_all (by decide +kernel) (pm_lc (x := "_law_k") rfl (sc_l_alike).nd (im_r1 (by rfl) T.n_range (pm_b1 sem_len (by rfl) T.n_len (by decide +kernel) (pm_v (pv 1)))) (blkOk_by (N := ["_law_found", "_law_due", "_law_k"]) (sc := defScope s_l_alike) (by decide +kernel)) (fun _ _ _ _ _ => pg_name (i := 2) (sc_l_alike).nd rfl (Or.inl rfl)) (fun _ _ _ _ _ => sts_nil) (fun _ _ _ _ _ => (pm_call (C := cx) G_l_alike hr (by rfl) T.m_l_alike T.F_l_alike.kp T.b_l_alike pass0 (fun _ _ _ z => z.elim) (am_cons (pm_ix (pm_v (pv 0)) (pm_v (pv 2))) (am_cons (pm_ix (pm_v (pv 1)) (pm_v (pv 2))) am_nil)) (alen_cons (alen_cons alen_nil))))))))) ss_nil)
    (ss_cons (sm_if (tm_truth (pm_isi (by rfl) T.n_isinstance (by rfl) T.n_bool (pm_v (pv 1)))) (ss_one (sm_ret (pm_and (pm_isi (by rfl) T.n_isinstance (by rfl) T.n_bool (pm_v (pv 0))) (pm_one (pm_cmp (sem_eq hu) (pm_v (pv 0)) (pm_v (pv 1)) (nomark _)))))) ss_nil)
    (ss_one (sm_ret (pm_and (pm_isi (by rfl) T.n_isinstance (by rfl) T.n_str (pm_v (pv 0))) (pm_one (pm_cmp (sem_eq hu) (pm_v (pv 0)) (pm_v (pv 1)) (nomark _))))))))
theorem all_l_alike (T : Tx K mg) (n : Nat) : FnOk P w K mg base CX0 (0 + n) T.a_l_alike T.d_l_alike ["_law_found", "_law_due"] (spP K cx 2 (f_l_alike n)) := by
  induction n with
  | zero => exact fn_none (C := cx) (φ := f_l_alike 0) (fun _ => by rw [f_l_alike])
  | succ n ih => exact (by rw [f_l_alike]; exact st_l_alike T ih)
theorem ok_l_alike (T : Tx K mg) (n : Nat) : FnOk P w K mg base CX0 (0 + n) T.a_l_alike T.d_l_alike ["_law_found", "_law_due"] (spP K cx 2 (f_l_alike n)) := (all_l_alike T n)
theorem ok_l_sign_in (T : Tx K mg) : FnOk P w K mg base CX0 2 T.a_l_sign_in T.d_l_sign_in ["_law_cell", "_law_leading"] (spP K cx 2 f_l_sign_in) :=
  fn_P (C := cx) (N := ["_law_cell", "_law_leading", "_law_sign"]) (ps := ["_law_cell", "_law_leading"]) (k := 1) (m := b_l_sign_in) T.F_l_sign_in sc_l_sign_in fun cdv A outer s H E hr => by
    have hu := hr.units
    exact (ss_cons (sm_set (i := 2) (sc_l_sign_in).nd rfl (.inl rfl) (pm_call (C := cx) (ok_l_sign_by T) (hr.mono (by decide)) (by rfl) T.m_l_sign_by T.F_l_sign_by.kp T.b_l_sign_by pass0 (fun _ _ _ z => z.elim) (am_cons (pm_v (pv 0)) am_nil) (alen_cons alen_nil)))
    (ss_cons (sm_if (PW.pt (wm_or (tm_cmp (sem_in hu) (pm_v (pv 2)) pm_str (by rfl)) (wm_or (PW.pt (wm_and (tm_truth (pm_v (pv 1))) (wm_and1 (tm_cmp (sem_eq hu) (pm_v (pv 2)) pm_str (nomark _))))) (wm_or1 (tm_cmp (sem_eq hu) (pm_op sem_mod (pm_op sem_div (pm_v (pv 0)) pm_int) pm_int) pm_int (nomark _)))))) (ss_one (sm_ret (pm_op sem_add pm_str (pm_v (pv 2))))) ss_nil)
    (ss_one (sm_ret (pm_v (pv 2))))))
theorem ok_l_set_by (T : Tx K mg) : FnOk P w K mg base CX0 3 T.a_l_set_by T.d_l_set_by ["_law_cell", "_law_large"] (spP K cx 2 f_l_set_by) :=
  fn_P (C := cx) (N := ["_law_cell", "_law_large", "_law_many", "_law_rest", "_law_told", "_law_signs", "_law_k"]) (ps := ["_law_cell", "_law_large"]) (k := 2) (m := b_l_set_by) T.F_l_set_by sc_l_set_by fun cdv A outer s H E hr => by
    have hu := hr.units
    exact (ss_cons (sm_set (i := 2) (sc_l_set_by).nd rfl (.inl rfl) (pm_op sem_add (pm_op sem_mod (pm_op sem_div (pm_v (pv 0)) pm_int) pm_int) (pm_op sem_mul pm_int (pm_t1 sem_int (by rfl) T.n_int (by decide +kernel) (pm_cmp (sem_eq hu) (pm_op sem_mod (pm_op sem_div (pm_v (pv 0)) pm_int) pm_int) pm_int (nomark _))))))
    (ss_cons (sm_if (PW.pt (wm_and (tm_truth (pm_v (pv 1))) (wm_and1 (tm_cmp (sem_eq hu) (pm_op sem_mod (pm_op sem_div (pm_v (pv 0)) pm_int) pm_int) pm_int (nomark _))))) (ss_one (sm_set (i := 2) (sc_l_set_by).nd rfl (.inl rfl) (pm_op sem_add pm_int (pm_op sem_mod (pm_op sem_div (pm_v (pv 0)) pm_int) pm_int)))) ss_nil)
    (ss_cons (sm_set (i := 3) (sc_l_set_by).nd rfl (.inl rfl) (pm_op sem_div (pm_v (pv 0)) pm_int))
    (ss_cons (sm_set (i := 4) (sc_l_set_by).nd rfl (.inl rfl) (pm_if (tm_cmp (sem_eq hu) (pm_op sem_mod (pm_v (pv 0)) pm_int) pm_int (nomark _)) pm_str pm_str))
    (ss_cons (sm_set (i := 5) (sc_l_set_by).nd rfl (.inl rfl) pm_str)
    (ss_cons (sm_for PassesOwn.never rfl (im_r1 (by rfl) T.n_range (pm_v (pv 2))) (pg_name (i := 6) (sc_l_set_by).nd rfl (.inl rfl)) (ss_cons (sm_set (i := 4) (sc_l_set_by).nd rfl (.inl rfl) (pm_op sem_add (pm_v (pv 4)) (pm_call (C := cx) (ok_l_sign_in T) (hr.mono (by decide)) (by rfl) T.m_l_sign_in T.F_l_sign_in.kp T.b_l_sign_in pass0 (fun _ _ _ z => z.elim) (am_cons (pm_op sem_add (pm_v (pv 3)) (pm_op sem_mul pm_int (pm_v (pv 6)))) (am_cons (pm_and (pm_cmp (sem_eq hu) (pm_v (pv 6)) pm_int (nomark _)) (pm_one (pm_cmp (sem_eq hu) (pm_op sem_mod (pm_v (pv 0)) pm_int) pm_int (nomark _)))) am_nil)) (alen_cons (alen_cons alen_nil)))))
    (ss_one (sm_set (i := 5) (sc_l_set_by).nd rfl (.inl rfl) (pm_op sem_add (pm_v (pv 5)) (pm_call (C := cx) (ok_l_sign_by T) (hr.mono (by decide)) (by rfl) T.m_l_sign_by T.F_l_sign_by.kp T.b_l_sign_by pass0 (fun _ _ _ z => z.elim) (am_cons (pm_op sem_add (pm_v (pv 3)) (pm_op sem_mul pm_int (pm_v (pv 6)))) am_nil) (alen_cons alen_nil)))))))
    (ss_one (sm_ret (pm_tup (am_cons (pm_op sem_add (pm_v (pv 4)) pm_str) (am_cons (pm_tup (am_cons pm_str (am_cons (pm_cmp (sem_eq hu) (pm_op sem_mod (pm_v (pv 0)) pm_int) pm_int (nomark _)) (am_cons (pm_v (pv 5)) am_nil)))) am_nil)))))))))))
theorem ok_l_piece_by (T : Tx K mg) : FnOk P w K mg base CX0 4 T.a_l_piece_by T.d_l_piece_by ["_law_cell", "_law_large", "_law_is_free"] (spP K cx 3 f_l_piece_by) :=
  fn_P (C := cx) (N := ["_law_cell", "_law_large", "_law_is_free", "_law_way", "_law_rest", "_law_sign"]) (ps := ["_law_cell", "_law_large", "_law_is_free"]) (k := 3) (m := b_l_piece_by) T.F_l_piece_by sc_l_piece_by fun cdv A outer s H E hr => by
    have hu := hr.units
    exact (ss_cons (sm_set (i := 3) (sc_l_piece_by).nd rfl (.inl rfl) (pm_op sem_mod (pm_v (pv 0)) pm_int))
    (ss_cons (sm_set (i := 4) (sc_l_piece_by).nd rfl (.inl rfl) (pm_op sem_div (pm_v (pv 0)) pm_int))
    (ss_cons (sm_if (tm_cmp (sem_eq hu) (pm_v (pv 3)) pm_int (nomark _)) (ss_one (sm_ret (pm_call (C := cx) (ok_l_set_by T) (hr.mono (by decide)) (by rfl) T.m_l_set_by T.F_l_set_by.kp T.b_l_set_by pass0 (fun _ _ _ z => z.elim) (am_cons (pm_v (pv 4)) (am_cons (pm_v (pv 1)) am_nil)) (alen_cons (alen_cons alen_nil))))) ss_nil)
    (ss_cons (sm_if (PW.pt (wm_and (tm_cmp (sem_eq hu) (pm_v (pv 3)) pm_int (nomark _)) (wm_and1 (tm_cmp (sem_eq hu) (pm_op sem_mod (pm_v (pv 4)) pm_int) pm_int (nomark _))))) (ss_one (sm_ret (pm_tup (am_cons pm_str (am_cons (pm_tup (am_cons pm_str (am_cons pm_bl (am_cons pm_str am_nil)))) am_nil))))) ss_nil)
    (ss_cons (sm_if (PW.pt (wm_and (tm_cmp (sem_eq hu) (pm_v (pv 3)) pm_int (nomark _)) (wm_and1 (tm_cmp (sem_eq hu) (pm_op sem_mod (pm_v (pv 4)) pm_int) pm_int (nomark _))))) (ss_one (sm_ret (pm_tup (am_cons (pm_if (tm_truth (pm_v (pv 2))) pm_str pm_str) (am_cons (pm_tup (am_cons pm_str (am_cons pm_bl (am_cons pm_str am_nil)))) am_nil))))) ss_nil)
    (ss_cons (sm_set (i := 5) (sc_l_piece_by).nd rfl (.inl rfl) (pm_call (C := cx) (ok_l_sign_by T) (hr.mono (by decide)) (by rfl) T.m_l_sign_by T.F_l_sign_by.kp T.b_l_sign_by pass0 (fun _ _ _ z => z.elim) (am_cons (pm_v (pv 4)) am_nil) (alen_cons alen_nil)))
    (ss_cons (sm_if (PW.pt (wm_or (tm_cmp (sem_in hu) (pm_v (pv 5)) pm_str (by rfl)) (wm_or1 (tm_cmp (sem_eq hu) (pm_op sem_mod (pm_op sem_div (pm_v (pv 4)) pm_int) pm_int) pm_int (nomark _))))) (ss_one (sm_ret (pm_tup (am_cons (pm_op sem_add pm_str (pm_v (pv 5))) (am_cons (pm_tup (am_cons pm_str (am_cons pm_bl (am_cons (pm_v (pv 5)) am_nil)))) am_nil))))) ss_nil)
    (ss_one (sm_ret (pm_tup (am_cons (pm_v (pv 5)) (am_cons (pm_tup (am_cons pm_str (am_cons pm_bl (am_cons (pm_v (pv 5)) am_nil)))) am_nil))))))))))))
theorem ok_l_bracketed (T : Tx K mg) : FnOk P w K mg base CX0 1 T.a_l_bracketed T.d_l_bracketed ["_law_piece", "_law_way"] (spP K cx 2 f_l_bracketed) :=
  fn_P (C := cx) (N := ["_law_piece", "_law_way", "_law_many"]) (ps := ["_law_piece", "_law_way"]) (k := 0) (m := b_l_bracketed) T.F_l_bracketed sc_l_bracketed fun cdv A outer s H E hr => by
    have hu := hr.units
    exact (ss_cons (sm_set (i := 2) (sc_l_bracketed).nd rfl (.inl rfl) (pm_ix (pm_lst (am_cons pm_int (am_cons pm_int (am_cons pm_int (am_cons pm_int (am_cons pm_int (am_cons pm_int (am_cons pm_int (am_cons pm_int am_nil))))))))) (pm_v (pv 1))))
    (ss_one (sm_ret (pm_tup (am_cons (pm_op sem_add (pm_op sem_add (pm_op sem_mul pm_str (pm_v (pv 2))) (pm_ix (pm_v (pv 0)) pm_int)) (pm_op sem_mul pm_str (pm_v (pv 2)))) (am_cons (pm_ix (pm_v (pv 0)) pm_int) am_nil))))))
theorem ok_l_repeated_by (T : Tx K mg) : FnOk P w K mg base CX0 1 T.a_l_repeated_by T.d_l_repeated_by ["_law_piece", "_law_way"] (spP K cx 2 f_l_repeated_by) :=
  fn_P (C := cx) (N := ["_law_piece", "_law_way", "_law_sign", "_law_kind"]) (ps := ["_law_piece", "_law_way"]) (k := 0) (m := b_l_repeated_by) T.F_l_repeated_by sc_l_repeated_by fun cdv A outer s H E hr => by
    have hu := hr.units
    exact (ss_cons (sm_if (tm_cmp sem_gt (pm_v (pv 1)) pm_int (nomark _)) (ss_one (sm_ret (pm_v (pv 0)))) ss_nil)
    (ss_cons (sm_set (i := 2) (sc_l_repeated_by).nd rfl (.inl rfl) (pm_ix (pm_lst (am_cons pm_str (am_cons pm_str (am_cons pm_str (am_cons pm_str am_nil))))) (pm_v (pv 1))))
    (ss_cons (sm_set (i := 3) (sc_l_repeated_by).nd rfl (.inl rfl) (pm_if (tm_cmp sem_lt (pm_v (pv 1)) pm_int (nomark _)) pm_str pm_str))
    (ss_one (sm_ret (pm_tup (am_cons (pm_op sem_add (pm_ix (pm_v (pv 0)) pm_int) (pm_v (pv 2))) (am_cons (pm_tup (am_cons (pm_v (pv 3)) (am_cons (pm_ix (pm_v (pv 0)) pm_int) (am_cons (pm_cmp (sem_eq hu) (pm_op sem_mod (pm_v (pv 1)) pm_int) pm_int (nomark _)) am_nil)))) am_nil))))))))
theorem ok_l_row_tree (T : Tx K mg) : FnOk P w K mg base CX0 1 T.a_l_row_tree T.d_l_row_tree ["_law_pieces"] (spP K cx 1 f_l_row_tree) :=
  fn_P (C := cx) (N := ["_law_pieces"]) (ps := ["_law_pieces"]) (k := 0) (m := b_l_row_tree) T.F_l_row_tree sc_l_row_tree fun cdv A outer s H E hr => by
    have hu := hr.units
    exact (ss_cons (sm_if (tm_cmp (sem_eq hu) (pm_b1 sem_len (by rfl) T.n_len (by decide +kernel) (pm_v (pv 0))) pm_int (nomark _)) (ss_one (sm_ret (pm_ix (pm_v (pv 0)) pm_int))) ss_nil)
    (ss_one (sm_ret (pm_tup (am_cons pm_str (am_cons (pm_t1 sem_tup (by rfl) T.n_tuple (by decide +kernel) (pm_v (pv 0))) am_nil))))))
theorem ok_l_long_right (T : Tx K mg) : FnOk P w K mg base CX0 203 T.a_l_long_right T.d_l_long_right ["_law_many", "_law_three"] (spP K cx 2 f_l_long_right) :=
  fn_P (C := cx) (N := ["_law_many", "_law_three", "_law_signs", "_law_k", "_law_told", "_law_sign"]) (ps := ["_law_many", "_law_three"]) (k := 202) (m := b_l_long_right) T.F_l_long_right sc_l_long_right fun cdv A outer s H E hr => by
    have hu := hr.units
    exact (ss_cons (sm_set (i := 2) (sc_l_long_right).nd rfl (.inl rfl) (pm_join (pm_lc (x := "_law_k") rfl (sc_l_long_right).nd (im_r1 (by rfl) T.n_range (pm_v (pv 0))) (blkOk_by (N := ["_law_many", "_law_three", "_law_signs", "_law_k", "_law_told", "_law_sign"]) (sc := defScope s_l_long_right) (by decide +kernel)) (fun _ _ _ _ _ => pg_name (i := 3) (sc_l_long_right).nd rfl (Or.inl rfl)) (fun _ _ _ _ _ => sts_nil) (fun _ _ _ _ _ => (pm_ix (pm_v (pv 1)) (pm_op sem_mod (pm_v (pv 3)) pm_int))))))
    (ss_cons (sm_set (i := 4) (sc_l_long_right).nd rfl (.inl rfl) (pm_join (pm_lc (x := "_law_sign") rfl (sc_l_long_right).nd (im_seq (pm_v (pv 2))) (blkOk_by (N := ["_law_many", "_law_three", "_law_signs", "_law_k", "_law_told", "_law_sign"]) (sc := defScope s_l_long_right) (by decide +kernel)) (fun _ _ _ _ _ => pg_name (i := 5) (sc_l_long_right).nd rfl (Or.inl rfl)) (fun _ _ _ _ _ => sts_nil) (fun _ _ _ _ _ => (pm_op sem_add pm_str (pm_v (pv 5)))))))
    (ss_one (sm_ret (pm_call (C := cx) (ok_l_alike T 200) (hr.mono (by decide)) (by rfl) T.m_l_alike T.F_l_alike.kp T.b_l_alike pass0 (fun _ _ _ z => z.elim) (am_cons (pm_call (C := cx) (ok_p_read T) (hr.mono (by decide)) (by rfl) T.m_p_read T.F_p_read.kp T.b_p_read pass0 (fun _ _ _ z => z.elim) (am_cons (pm_v (pv 4)) am_nil) (alen_cons alen_nil)) (am_cons (pm_tup (am_cons pm_str (am_cons (pm_t1 sem_tup (by rfl) T.n_tuple (by decide +kernel) (pm_lc (x := "_law_sign") rfl (sc_l_long_right).nd (im_seq (pm_v (pv 2))) (blkOk_by (N := ["_law_many", "_law_three", "_law_signs", "_law_k", "_law_told", "_law_sign"]) (sc := defScope s_l_long_right) (by decide +kernel)) (fun _ _ _ _ _ => pg_name (i := 5) (sc_l_long_right).nd rfl (Or.inl rfl)) (fun _ _ _ _ _ => sts_nil) (fun _ _ _ _ _ => (pm_tup (am_cons pm_str (am_cons pm_bl (am_cons (pm_v (pv 5)) am_nil))))))) am_nil))) am_nil)) (alen_cons (alen_cons alen_nil)))))))
theorem ok_l_law (T : Tx K mg) : FnOk P w K mg base CX0 204 T.a_l_law T.d_l_law ["_law_script"] (spP K cx 1 f_l_law) :=
  fn_P (C := cx) (N := ["_law_script", "_law_told", "_law_parts", "_law_pieces", "_law_is_free", "_law_cell", "_law_way", "_law_piece", "_law_due", "_law_first_cell"]) (ps := ["_law_script"]) (k := 203) (m := b_l_law) T.F_l_law sc_l_law fun cdv A outer s H E hr => by
    have hu := hr.units
    exact (ss_cons (sm_set (i := 1) (sc_l_law).nd rfl (.inl rfl) pm_str)
    (ss_cons (sm_ownL (i := 2) (sc_l_law).nd rfl (.inl rfl) am_nil)
    (ss_cons (sm_ownL (i := 3) (sc_l_law).nd rfl (.inl rfl) am_nil)
    (ss_cons (sm_set (i := 4) (sc_l_law).nd rfl (.inl rfl) pm_bl)
    (ss_cons (sm_for PassesOwn.never rfl (im_seq (pm_sl (pm_v (pv 0)) om_n (om_s pm_int))) (pg_name (i := 5) (sc_l_law).nd rfl (.inl rfl)) (ss_one (sm_if (tm_cmp (sem_eq hu) (pm_op sem_mod (pm_v (pv 5)) pm_int) pm_int (nomark _)) (ss_cons (sm_set (i := 1) (sc_l_law).nd rfl (.inl rfl) (pm_op sem_add (pm_v (pv 1)) pm_str))
    (ss_cons (sm_ex (pm_app (pm_v (pv 2)) (pm_fz (pm_call (C := cx) (ok_l_row_tree T) (hr.mono (by decide)) (by rfl) T.m_l_row_tree T.F_l_row_tree.kp T.b_l_row_tree pass0 (fun _ _ _ z => z.elim) (am_cons (pm_v (pv 3)) am_nil) (alen_cons alen_nil)))))
    (ss_cons (sm_ownL (i := 3) (sc_l_law).nd rfl (.inl rfl) am_nil)
    (ss_one (sm_set (i := 4) (sc_l_law).nd rfl (.inl rfl) pm_bl))))) (ss_cons (sm_set (i := 6) (sc_l_law).nd rfl (.inl rfl) (pm_op sem_mod (pm_op sem_div (pm_v (pv 5)) pm_int) pm_int))
    (ss_cons (sm_set (i := 7) (sc_l_law).nd rfl (.inl rfl) (pm_call (C := cx) (ok_l_piece_by T) (hr.mono (by decide)) (by rfl) T.m_l_piece_by T.F_l_piece_by.kp T.b_l_piece_by pass0 (fun _ _ _ z => z.elim) (am_cons (pm_op sem_div (pm_v (pv 5)) pm_int) (am_cons (pm_cmp (sem_eq hu) (pm_v (pv 1)) pm_str (nomark _)) (am_cons (pm_v (pv 4)) am_nil))) (alen_cons (alen_cons (alen_cons alen_nil)))))
    (ss_cons (sm_set (i := 7) (sc_l_law).nd rfl (.inl rfl) (pm_call (C := cx) (ok_l_bracketed T) (hr.mono (by decide)) (by rfl) T.m_l_bracketed T.F_l_bracketed.kp T.b_l_bracketed pass0 (fun _ _ _ z => z.elim) (am_cons (pm_call (C := cx) (ok_l_repeated_by T) (hr.mono (by decide)) (by rfl) T.m_l_repeated_by T.F_l_repeated_by.kp T.b_l_repeated_by pass0 (fun _ _ _ z => z.elim) (am_cons (pm_call (C := cx) (ok_l_bracketed T) (hr.mono (by decide)) (by rfl) T.m_l_bracketed T.F_l_bracketed.kp T.b_l_bracketed pass0 (fun _ _ _ z => z.elim) (am_cons (pm_v (pv 7)) (am_cons (pm_op sem_mod (pm_op sem_div (pm_v (pv 5)) pm_int) pm_int) am_nil)) (alen_cons (alen_cons alen_nil))) (am_cons (pm_v (pv 6)) am_nil)) (alen_cons (alen_cons alen_nil))) (am_cons (pm_op sem_mod (pm_op sem_div (pm_v (pv 5)) pm_int) pm_int) am_nil)) (alen_cons (alen_cons alen_nil))))
    (ss_cons (sm_set (i := 1) (sc_l_law).nd rfl (.inl rfl) (pm_op sem_add (pm_v (pv 1)) (pm_ix (pm_v (pv 7)) pm_int)))
    (ss_cons (sm_ex (pm_app (pm_v (pv 3)) (pm_ix (pm_v (pv 7)) pm_int)))
    (ss_one (sm_set (i := 4) (sc_l_law).nd rfl (.inl rfl) (pm_or (pm_cmp sem_gt (pm_v (pv 6)) pm_int (nomark _)) (pm_or (pm_cmp (sem_eq hu) (pm_op sem_mod (pm_v (pv 6)) pm_int) pm_int (nomark _)) (pm_one (pm_cmp sem_gt (pm_op sem_mod (pm_op sem_div (pm_v (pv 5)) pm_int) pm_int) pm_int (nomark _)))))))))))))))
    (ss_cons (sm_ex (pm_app (pm_v (pv 2)) (pm_fz (pm_call (C := cx) (ok_l_row_tree T) (hr.mono (by decide)) (by rfl) T.m_l_row_tree T.F_l_row_tree.kp T.b_l_row_tree pass0 (fun _ _ _ z => z.elim) (am_cons (pm_v (pv 3)) am_nil) (alen_cons alen_nil)))))
    (ss_cons (sm_set (i := 8) (sc_l_law).nd rfl (.inl rfl) (pm_ix (pm_v (pv 2)) pm_int))
    (ss_cons (sm_if (tm_cmp sem_gt (pm_b1 sem_len (by rfl) T.n_len (by decide +kernel) (pm_v (pv 2))) pm_int (nomark _)) (ss_one (sm_set (i := 8) (sc_l_law).nd rfl (.inl rfl) (pm_tup (am_cons pm_str (am_cons (pm_t1 sem_tup (by rfl) T.n_tuple (by decide +kernel) (pm_v (pv 2))) am_nil))))) ss_nil)
    (ss_cons (sm_if (tm_not (tm_truth (pm_call (C := cx) (ok_l_alike T 200) (hr.mono (by decide)) (by rfl) T.m_l_alike T.F_l_alike.kp T.b_l_alike pass0 (fun _ _ _ z => z.elim) (am_cons (pm_call (C := cx) (ok_p_read T) (hr.mono (by decide)) (by rfl) T.m_p_read T.F_p_read.kp T.b_p_read pass0 (fun _ _ _ z => z.elim) (am_cons (pm_v (pv 1)) am_nil) (alen_cons alen_nil)) (am_cons (pm_v (pv 8)) am_nil)) (alen_cons (alen_cons alen_nil))))) (ss_one (sm_ret pm_bl)) ss_nil)
    (ss_cons (sm_set (i := 9) (sc_l_law).nd rfl (.inl rfl) (pm_call (C := cx) (ok_l_cell_at T) (hr.mono (by decide)) (by rfl) T.m_l_cell_at T.F_l_cell_at.kp T.b_l_cell_at pass0 (fun _ _ _ z => z.elim) (am_cons (pm_v (pv 0)) (am_cons pm_int am_nil)) (alen_cons (alen_cons alen_nil))))
    (ss_one (sm_ret (pm_or (pm_cmp (sem_ne hu) (pm_op sem_mod (pm_v (pv 9)) pm_int) pm_int (nomark _)) (pm_one (pm_call (C := cx) (ok_l_long_right T) (hr.mono (by decide)) (by rfl) T.m_l_long_right T.F_l_long_right.kp T.b_l_long_right pass0 (fun _ _ _ z => z.elim) (am_cons (pm_op sem_add pm_int (pm_op sem_mod (pm_op sem_div (pm_v (pv 9)) pm_int) pm_int)) (am_cons (pm_call (C := cx) (ok_l_three_by T) (hr.mono (by decide)) (by rfl) T.m_l_three_by T.F_l_three_by.kp T.b_l_three_by pass0 (fun _ _ _ z => z.elim) (am_cons (pm_op sem_div (pm_v (pv 9)) pm_int) am_nil) (alen_cons alen_nil)) am_nil)) (alen_cons (alen_cons alen_nil)))))))))))))))))
end
def spLaw (K : PySem.W.Frag) : Sp := fun vs H Q _ => ∃ (a : Addr) (ns : List Int), vs = [.ref a] ∧ SqL K H a (ns.map V.int) ∧ ns.length ≤ 63 ∧ ∀ H', Q (.bl true) H'
theorem law_sp {K : PySem.W.Frag} (h : ∀ ns : List Int, ns.length ≤ 63 → f_l_law [.scr ns] = .ok (.bl true)) : ∀ vs H Q E, spLaw K vs H Q E → spP K cx 1 f_l_law vs H Q E := fun vs H Q E ⟨a, ns, e, hs, hl, q⟩ => by
  subst e
  refine ⟨rfl, [], [.scr ns], fun _ z => (nomatch z), ?_, ?_⟩
  · have : imm H [] [] = H := by funext b; unfold imm; simp
    rw [this]
    simp only [DrL, Dr]
    exact ⟨⟨a, rfl, hs⟩, trivial⟩
  · rw [h ns hl]
    intro v H' _ hd
    rw [Dr] at hd
    subst hd
    exact q H'
end Wk
end
namespace Wk
open PySem L2 Snd Bd Mini
theorem all_mk {l : PySem.W.OpenLaw} {w : World} {K : PySem.W.Frag} {h : Heap} {mg : Str → Option Value} {fa : Addr} (X : K.In h) (G : h.Ns mainGlobals mg) (hfa : mg "law" = some (.ref fa)) (main : ∀ ns : List Int, ns.length ≤ 63 → f_l_law [.scr ns] = .ok (.bl true))
    {f0 : Addr} {od0 an0 : Option Addr} {sl0 : Array (Option Value)} {oc0 kV0 dc0 pm0 cd0 ct0 : Value}
    {f1 : Addr} {od1 an1 : Option Addr} {sl1 : Array (Option Value)} {oc1 kV1 dc1 pm1 cd1 ct1 : Value}
    {f2 : Addr} {od2 an2 : Option Addr} {sl2 : Array (Option Value)} {oc2 kV2 dc2 pm2 cd2 ct2 : Value}
    {f3 : Addr} {od3 an3 : Option Addr} {sl3 : Array (Option Value)} {oc3 kV3 dc3 pm3 cd3 ct3 : Value}
    {f4 : Addr} {od4 an4 : Option Addr} {sl4 : Array (Option Value)} {oc4 kV4 dc4 pm4 cd4 ct4 : Value}
    {f5 : Addr} {od5 an5 : Option Addr} {sl5 : Array (Option Value)} {oc5 kV5 dc5 pm5 cd5 ct5 : Value}
    {f6 : Addr} {od6 an6 : Option Addr} {sl6 : Array (Option Value)} {oc6 kV6 dc6 pm6 cd6 ct6 : Value}
    {f7 : Addr} {od7 an7 : Option Addr} {sl7 : Array (Option Value)} {oc7 kV7 dc7 pm7 cd7 ct7 : Value}
    {f8 : Addr} {od8 an8 : Option Addr} {sl8 : Array (Option Value)} {oc8 kV8 dc8 pm8 cd8 ct8 : Value}
    {f9 : Addr} {od9 an9 : Option Addr} {sl9 : Array (Option Value)} {oc9 kV9 dc9 pm9 cd9 ct9 : Value}
    {f10 : Addr} {od10 an10 : Option Addr} {sl10 : Array (Option Value)} {oc10 kV10 dc10 pm10 cd10 ct10 : Value}
    {f11 : Addr} {od11 an11 : Option Addr} {sl11 : Array (Option Value)} {oc11 kV11 dc11 pm11 cd11 ct11 : Value}
    {f12 : Addr} {od12 an12 : Option Addr} {sl12 : Array (Option Value)} {oc12 kV12 dc12 pm12 cd12 ct12 : Value}
    {f13 : Addr} {od13 an13 : Option Addr} {sl13 : Array (Option Value)} {oc13 kV13 dc13 pm13 cd13 ct13 : Value}
    {f14 : Addr} {od14 an14 : Option Addr} {sl14 : Array (Option Value)} {oc14 kV14 dc14 pm14 cd14 ct14 : Value}
    {f15 : Addr} {od15 an15 : Option Addr} {sl15 : Array (Option Value)} {oc15 kV15 dc15 pm15 cd15 ct15 : Value}
    {f16 : Addr} {od16 an16 : Option Addr} {sl16 : Array (Option Value)} {oc16 kV16 dc16 pm16 cd16 ct16 : Value}
    {f17 : Addr} {od17 an17 : Option Addr} {sl17 : Array (Option Value)} {oc17 kV17 dc17 pm17 cd17 ct17 : Value}
    {f18 : Addr} {od18 an18 : Option Addr} {sl18 : Array (Option Value)} {oc18 kV18 dc18 pm18 cd18 ct18 : Value}
    {f19 : Addr} {od19 an19 : Option Addr} {sl19 : Array (Option Value)} {oc19 kV19 dc19 pm19 cd19 ct19 : Value}
    {f20 : Addr} {od20 an20 : Option Addr} {sl20 : Array (Option Value)} {oc20 kV20 dc20 pm20 cd20 ct20 : Value}
    {tk_DEEPEST : Tok}
    (a0 : PySem.W.nsIn K mainGlobals "bare" = some (some (.ref f0))) (l0 : K.lookup f0 = some ⟨oc0, od0, .func (PySem.W.fnOf "bare" "bare" (defArgs s_p_bare) (defBody s_p_bare) (defScope s_p_bare) .none kV0 dc0 pm0 an0 cd0 ct0), sl0⟩) (c0 : PySem.W.codeIn K cd0 "bare" = true) (k0 : PySem.W.keepIn K (.ref f0) = true)
    (a1 : PySem.W.nsIn K mainGlobals "row_of" = some (some (.ref f1))) (l1 : K.lookup f1 = some ⟨oc1, od1, .func (PySem.W.fnOf "row_of" "row_of" (defArgs s_p_row_of) (defBody s_p_row_of) (defScope s_p_row_of) .none kV1 dc1 pm1 an1 cd1 ct1), sl1⟩) (c1 : PySem.W.codeIn K cd1 "row_of" = true) (k1 : PySem.W.keepIn K (.ref f1) = true)
    (a2 : PySem.W.nsIn K mainGlobals "pick_of" = some (some (.ref f2))) (l2 : K.lookup f2 = some ⟨oc2, od2, .func (PySem.W.fnOf "pick_of" "pick_of" (defArgs s_p_pick_of) (defBody s_p_pick_of) (defScope s_p_pick_of) .none kV2 dc2 pm2 an2 cd2 ct2), sl2⟩) (c2 : PySem.W.codeIn K cd2 "pick_of" = true) (k2 : PySem.W.keepIn K (.ref f2) = true)
    (a3 : PySem.W.nsIn K mainGlobals "set_at" = some (some (.ref f3))) (l3 : K.lookup f3 = some ⟨oc3, od3, .func (PySem.W.fnOf "set_at" "set_at" (defArgs s_p_set_at) (defBody s_p_set_at) (defScope s_p_set_at) .none kV3 dc3 pm3 an3 cd3 ct3), sl3⟩) (c3 : PySem.W.codeIn K cd3 "set_at" = true) (k3 : PySem.W.keepIn K (.ref f3) = true)
    (a4 : PySem.W.nsIn K mainGlobals "piece_at" = some (some (.ref f4))) (l4 : K.lookup f4 = some ⟨oc4, od4, .func (PySem.W.fnOf "piece_at" "piece_at" (defArgs s_p_piece_at) (defBody s_p_piece_at) (defScope s_p_piece_at) .none kV4 dc4 pm4 an4 cd4 ct4), sl4⟩) (c4 : PySem.W.codeIn K cd4 "piece_at" = true) (k4 : PySem.W.keepIn K (.ref f4) = true)
    (a5 : PySem.W.nsIn K mainGlobals "repeated" = some (some (.ref f5))) (l5 : K.lookup f5 = some ⟨oc5, od5, .func (PySem.W.fnOf "repeated" "repeated" (defArgs s_p_repeated) (defBody s_p_repeated) (defScope s_p_repeated) .none kV5 dc5 pm5 an5 cd5 ct5), sl5⟩) (c5 : PySem.W.codeIn K cd5 "repeated" = true) (k5 : PySem.W.keepIn K (.ref f5) = true)
    (a6 : PySem.W.nsIn K mainGlobals "closed" = some (some (.ref f6))) (l6 : K.lookup f6 = some ⟨oc6, od6, .func (PySem.W.fnOf "closed" "closed" (defArgs s_p_closed) (defBody s_p_closed) (defScope s_p_closed) .none kV6 dc6 pm6 an6 cd6 ct6), sl6⟩) (c6 : PySem.W.codeIn K cd6 "closed" = true) (k6 : PySem.W.keepIn K (.ref f6) = true)
    (a7 : PySem.W.nsIn K mainGlobals "opened" = some (some (.ref f7))) (l7 : K.lookup f7 = some ⟨oc7, od7, .func (PySem.W.fnOf "opened" "opened" (defArgs s_p_opened) (defBody s_p_opened) (defScope s_p_opened) .none kV7 dc7 pm7 an7 cd7 ct7), sl7⟩) (c7 : PySem.W.codeIn K cd7 "opened" = true) (k7 : PySem.W.keepIn K (.ref f7) = true)
    (a8 : PySem.W.nsIn K mainGlobals "read" = some (some (.ref f8))) (l8 : K.lookup f8 = some ⟨oc8, od8, .func (PySem.W.fnOf "read" "read" (defArgs s_p_read) (defBody s_p_read) (defScope s_p_read) .none kV8 dc8 pm8 an8 cd8 ct8), sl8⟩) (c8 : PySem.W.codeIn K cd8 "read" = true) (k8 : PySem.W.keepIn K (.ref f8) = true)
    (a9 : PySem.W.nsIn K mainGlobals "_law_cell_at" = some (some (.ref f9))) (l9 : K.lookup f9 = some ⟨oc9, od9, .func (PySem.W.fnOf "_law_cell_at" "_law_cell_at" (defArgs s_l_cell_at) (defBody s_l_cell_at) (defScope s_l_cell_at) .none kV9 dc9 pm9 an9 cd9 ct9), sl9⟩) (c9 : PySem.W.codeIn K cd9 "_law_cell_at" = true) (k9 : PySem.W.keepIn K (.ref f9) = true)
    (a10 : PySem.W.nsIn K mainGlobals "_law_sign_by" = some (some (.ref f10))) (l10 : K.lookup f10 = some ⟨oc10, od10, .func (PySem.W.fnOf "_law_sign_by" "_law_sign_by" (defArgs s_l_sign_by) (defBody s_l_sign_by) (defScope s_l_sign_by) .none kV10 dc10 pm10 an10 cd10 ct10), sl10⟩) (c10 : PySem.W.codeIn K cd10 "_law_sign_by" = true) (k10 : PySem.W.keepIn K (.ref f10) = true)
    (a11 : PySem.W.nsIn K mainGlobals "_law_three_by" = some (some (.ref f11))) (l11 : K.lookup f11 = some ⟨oc11, od11, .func (PySem.W.fnOf "_law_three_by" "_law_three_by" (defArgs s_l_three_by) (defBody s_l_three_by) (defScope s_l_three_by) .none kV11 dc11 pm11 an11 cd11 ct11), sl11⟩) (c11 : PySem.W.codeIn K cd11 "_law_three_by" = true) (k11 : PySem.W.keepIn K (.ref f11) = true)
    (a12 : PySem.W.nsIn K mainGlobals "_law_alike" = some (some (.ref f12))) (l12 : K.lookup f12 = some ⟨oc12, od12, .func (PySem.W.fnOf "_law_alike" "_law_alike" (defArgs s_l_alike) (defBody s_l_alike) (defScope s_l_alike) .none kV12 dc12 pm12 an12 cd12 ct12), sl12⟩) (c12 : PySem.W.codeIn K cd12 "_law_alike" = true) (k12 : PySem.W.keepIn K (.ref f12) = true)
    (a13 : PySem.W.nsIn K mainGlobals "_law_sign_in" = some (some (.ref f13))) (l13 : K.lookup f13 = some ⟨oc13, od13, .func (PySem.W.fnOf "_law_sign_in" "_law_sign_in" (defArgs s_l_sign_in) (defBody s_l_sign_in) (defScope s_l_sign_in) .none kV13 dc13 pm13 an13 cd13 ct13), sl13⟩) (c13 : PySem.W.codeIn K cd13 "_law_sign_in" = true) (k13 : PySem.W.keepIn K (.ref f13) = true)
    (a14 : PySem.W.nsIn K mainGlobals "_law_set_by" = some (some (.ref f14))) (l14 : K.lookup f14 = some ⟨oc14, od14, .func (PySem.W.fnOf "_law_set_by" "_law_set_by" (defArgs s_l_set_by) (defBody s_l_set_by) (defScope s_l_set_by) .none kV14 dc14 pm14 an14 cd14 ct14), sl14⟩) (c14 : PySem.W.codeIn K cd14 "_law_set_by" = true) (k14 : PySem.W.keepIn K (.ref f14) = true)
    (a15 : PySem.W.nsIn K mainGlobals "_law_piece_by" = some (some (.ref f15))) (l15 : K.lookup f15 = some ⟨oc15, od15, .func (PySem.W.fnOf "_law_piece_by" "_law_piece_by" (defArgs s_l_piece_by) (defBody s_l_piece_by) (defScope s_l_piece_by) .none kV15 dc15 pm15 an15 cd15 ct15), sl15⟩) (c15 : PySem.W.codeIn K cd15 "_law_piece_by" = true) (k15 : PySem.W.keepIn K (.ref f15) = true)
    (a16 : PySem.W.nsIn K mainGlobals "_law_bracketed" = some (some (.ref f16))) (l16 : K.lookup f16 = some ⟨oc16, od16, .func (PySem.W.fnOf "_law_bracketed" "_law_bracketed" (defArgs s_l_bracketed) (defBody s_l_bracketed) (defScope s_l_bracketed) .none kV16 dc16 pm16 an16 cd16 ct16), sl16⟩) (c16 : PySem.W.codeIn K cd16 "_law_bracketed" = true) (k16 : PySem.W.keepIn K (.ref f16) = true)
    (a17 : PySem.W.nsIn K mainGlobals "_law_repeated_by" = some (some (.ref f17))) (l17 : K.lookup f17 = some ⟨oc17, od17, .func (PySem.W.fnOf "_law_repeated_by" "_law_repeated_by" (defArgs s_l_repeated_by) (defBody s_l_repeated_by) (defScope s_l_repeated_by) .none kV17 dc17 pm17 an17 cd17 ct17), sl17⟩) (c17 : PySem.W.codeIn K cd17 "_law_repeated_by" = true) (k17 : PySem.W.keepIn K (.ref f17) = true)
    (a18 : PySem.W.nsIn K mainGlobals "_law_row_tree" = some (some (.ref f18))) (l18 : K.lookup f18 = some ⟨oc18, od18, .func (PySem.W.fnOf "_law_row_tree" "_law_row_tree" (defArgs s_l_row_tree) (defBody s_l_row_tree) (defScope s_l_row_tree) .none kV18 dc18 pm18 an18 cd18 ct18), sl18⟩) (c18 : PySem.W.codeIn K cd18 "_law_row_tree" = true) (k18 : PySem.W.keepIn K (.ref f18) = true)
    (a19 : PySem.W.nsIn K mainGlobals "_law_long_right" = some (some (.ref f19))) (l19 : K.lookup f19 = some ⟨oc19, od19, .func (PySem.W.fnOf "_law_long_right" "_law_long_right" (defArgs s_l_long_right) (defBody s_l_long_right) (defScope s_l_long_right) .none kV19 dc19 pm19 an19 cd19 ct19), sl19⟩) (c19 : PySem.W.codeIn K cd19 "_law_long_right" = true) (k19 : PySem.W.keepIn K (.ref f19) = true)
    (a20 : PySem.W.nsIn K mainGlobals "law" = some (some (.ref f20))) (l20 : K.lookup f20 = some ⟨oc20, od20, .func (PySem.W.fnOf "law" "law" (defArgs s_l_law) (defBody s_l_law) (defScope s_l_law) .none kV20 dc20 pm20 an20 cd20 ct20), sl20⟩) (c20 : PySem.W.codeIn K cd20 "law" = true) (k20 : PySem.W.keepIn K (.ref f20) = true)
    (z_all : PySem.W.nsIn K mainGlobals "all" = some none)
    (z_any : PySem.W.nsIn K mainGlobals "any" = some none)
    (z_bool : PySem.W.nsIn K mainGlobals "bool" = some none)
    (z_int : PySem.W.nsIn K mainGlobals "int" = some none)
    (z_isinstance : PySem.W.nsIn K mainGlobals "isinstance" = some none)
    (z_len : PySem.W.nsIn K mainGlobals "len" = some none)
    (z_range : PySem.W.nsIn K mainGlobals "range" = some none)
    (z_str : PySem.W.nsIn K mainGlobals "str" = some none)
    (z_tuple : PySem.W.nsIn K mainGlobals "tuple" = some none)
    (y_DEEPEST : PySem.W.nsIn K mainGlobals "DEEPEST" = some (some (.int 30 tk_DEEPEST))) :
    ∃ fd : FuncData, (∀ (s : Shared) (v : Value), BindsTo s fd ⟨[v], []⟩ [("_law_script", v)]) ∧ ∀ base : Heap, K.In base → base.Ns mainGlobals mg → FnOk l.prog w K mg base CX0 204 fa fd ["_law_script"] (spLaw K) := by
  have e := hfa.symm.trans (PySem.W.mg_of X G a20)
  cases e
  have F0 := fun_mk (st := s_p_bare) l0 c0 k0
  have b0 := F0.binds (ps := ["tree"]) fun _ _ _ _ _ _ us hl => match us, hl with | [_], _ => rfl
  have F1 := fun_mk (st := s_p_row_of) l1 c1 k1
  have b1 := F1.binds (ps := ["pieces"]) fun _ _ _ _ _ _ us hl => match us, hl with | [_], _ => rfl
  have F2 := fun_mk (st := s_p_pick_of) l2 c2 k2
  have b2 := F2.binds (ps := ["rows"]) fun _ _ _ _ _ _ us hl => match us, hl with | [_], _ => rfl
  have F3 := fun_mk (st := s_p_set_at) l3 c3 k3
  have b3 := F3.binds (ps := ["pattern", "at"]) fun _ _ _ _ _ _ us hl => match us, hl with | [_, _], _ => rfl
  have F4 := fun_mk (st := s_p_piece_at) l4 c4 k4
  have b4 := F4.binds (ps := ["pattern", "at"]) fun _ _ _ _ _ _ us hl => match us, hl with | [_, _], _ => rfl
  have F5 := fun_mk (st := s_p_repeated) l5 c5 k5
  have b5 := F5.binds (ps := ["sign", "ready", "pieces", "eager"]) fun _ _ _ _ _ _ us hl => match us, hl with | [_, _, _, _], _ => rfl
  have F6 := fun_mk (st := s_p_closed) l6 c6 k6
  have b6 := F6.binds (ps := ["frames"]) fun _ _ _ _ _ _ us hl => match us, hl with | [_], _ => rfl
  have F7 := fun_mk (st := s_p_opened) l7 c7 k7
  have b7 := F7.binds (ps := ["frames"]) fun _ _ _ _ _ _ us hl => match us, hl with | [_], _ => rfl
  have F8 := fun_mk (st := s_p_read) l8 c8 k8
  have b8 := F8.binds (ps := ["pattern"]) fun _ _ _ _ _ _ us hl => match us, hl with | [_], _ => rfl
  have F9 := fun_mk (st := s_l_cell_at) l9 c9 k9
  have b9 := F9.binds (ps := ["_law_script", "_law_k"]) fun _ _ _ _ _ _ us hl => match us, hl with | [_, _], _ => rfl
  have F10 := fun_mk (st := s_l_sign_by) l10 c10 k10
  have b10 := F10.binds (ps := ["_law_cell"]) fun _ _ _ _ _ _ us hl => match us, hl with | [_], _ => rfl
  have F11 := fun_mk (st := s_l_three_by) l11 c11 k11
  have b11 := F11.binds (ps := ["_law_cell"]) fun _ _ _ _ _ _ us hl => match us, hl with | [_], _ => rfl
  have F12 := fun_mk (st := s_l_alike) l12 c12 k12
  have b12 := F12.binds (ps := ["_law_found", "_law_due"]) fun _ _ _ _ _ _ us hl => match us, hl with | [_, _], _ => rfl
  have F13 := fun_mk (st := s_l_sign_in) l13 c13 k13
  have b13 := F13.binds (ps := ["_law_cell", "_law_leading"]) fun _ _ _ _ _ _ us hl => match us, hl with | [_, _], _ => rfl
  have F14 := fun_mk (st := s_l_set_by) l14 c14 k14
  have b14 := F14.binds (ps := ["_law_cell", "_law_large"]) fun _ _ _ _ _ _ us hl => match us, hl with | [_, _], _ => rfl
  have F15 := fun_mk (st := s_l_piece_by) l15 c15 k15
  have b15 := F15.binds (ps := ["_law_cell", "_law_large", "_law_is_free"]) fun _ _ _ _ _ _ us hl => match us, hl with | [_, _, _], _ => rfl
  have F16 := fun_mk (st := s_l_bracketed) l16 c16 k16
  have b16 := F16.binds (ps := ["_law_piece", "_law_way"]) fun _ _ _ _ _ _ us hl => match us, hl with | [_, _], _ => rfl
  have F17 := fun_mk (st := s_l_repeated_by) l17 c17 k17
  have b17 := F17.binds (ps := ["_law_piece", "_law_way"]) fun _ _ _ _ _ _ us hl => match us, hl with | [_, _], _ => rfl
  have F18 := fun_mk (st := s_l_row_tree) l18 c18 k18
  have b18 := F18.binds (ps := ["_law_pieces"]) fun _ _ _ _ _ _ us hl => match us, hl with | [_], _ => rfl
  have F19 := fun_mk (st := s_l_long_right) l19 c19 k19
  have b19 := F19.binds (ps := ["_law_many", "_law_three"]) fun _ _ _ _ _ _ us hl => match us, hl with | [_, _], _ => rfl
  have F20 := fun_mk (st := s_l_law) l20 c20 k20
  have b20 := F20.binds (ps := ["_law_script"]) fun _ _ _ _ _ _ us hl => match us, hl with | [_], _ => rfl
  let T : Tx K mg := { a_p_bare := _, d_p_bare := _, F_p_bare := F0, m_p_bare := PySem.W.mg_of X G a0, b_p_bare := b0, a_p_row_of := _, d_p_row_of := _, F_p_row_of := F1, m_p_row_of := PySem.W.mg_of X G a1, b_p_row_of := b1, a_p_pick_of := _, d_p_pick_of := _, F_p_pick_of := F2, m_p_pick_of := PySem.W.mg_of X G a2, b_p_pick_of := b2, a_p_set_at := _, d_p_set_at := _, F_p_set_at := F3, m_p_set_at := PySem.W.mg_of X G a3, b_p_set_at := b3, a_p_piece_at := _, d_p_piece_at := _, F_p_piece_at := F4, m_p_piece_at := PySem.W.mg_of X G a4, b_p_piece_at := b4, a_p_repeated := _, d_p_repeated := _, F_p_repeated := F5, m_p_repeated := PySem.W.mg_of X G a5, b_p_repeated := b5, a_p_closed := _, d_p_closed := _, F_p_closed := F6, m_p_closed := PySem.W.mg_of X G a6, b_p_closed := b6, a_p_opened := _, d_p_opened := _, F_p_opened := F7, m_p_opened := PySem.W.mg_of X G a7, b_p_opened := b7, a_p_read := _, d_p_read := _, F_p_read := F8, m_p_read := PySem.W.mg_of X G a8, b_p_read := b8, a_l_cell_at := _, d_l_cell_at := _, F_l_cell_at := F9, m_l_cell_at := PySem.W.mg_of X G a9, b_l_cell_at := b9, a_l_sign_by := _, d_l_sign_by := _, F_l_sign_by := F10, m_l_sign_by := PySem.W.mg_of X G a10, b_l_sign_by := b10, a_l_three_by := _, d_l_three_by := _, F_l_three_by := F11, m_l_three_by := PySem.W.mg_of X G a11, b_l_three_by := b11, a_l_alike := _, d_l_alike := _, F_l_alike := F12, m_l_alike := PySem.W.mg_of X G a12, b_l_alike := b12, a_l_sign_in := _, d_l_sign_in := _, F_l_sign_in := F13, m_l_sign_in := PySem.W.mg_of X G a13, b_l_sign_in := b13, a_l_set_by := _, d_l_set_by := _, F_l_set_by := F14, m_l_set_by := PySem.W.mg_of X G a14, b_l_set_by := b14, a_l_piece_by := _, d_l_piece_by := _, F_l_piece_by := F15, m_l_piece_by := PySem.W.mg_of X G a15, b_l_piece_by := b15, a_l_bracketed := _, d_l_bracketed := _, F_l_bracketed := F16, m_l_bracketed := PySem.W.mg_of X G a16, b_l_bracketed := b16, a_l_repeated_by := _, d_l_repeated_by := _, F_l_repeated_by := F17, m_l_repeated_by := PySem.W.mg_of X G a17, b_l_repeated_by := b17, a_l_row_tree := _, d_l_row_tree := _, F_l_row_tree := F18, m_l_row_tree := PySem.W.mg_of X G a18, b_l_row_tree := b18, a_l_long_right := _, d_l_long_right := _, F_l_long_right := F19, m_l_long_right := PySem.W.mg_of X G a19, b_l_long_right := b19, a_l_law := _, d_l_law := _, F_l_law := F20, m_l_law := PySem.W.mg_of X G a20, b_l_law := b20, n_all := PySem.W.mg_none_of X G z_all, n_any := PySem.W.mg_none_of X G z_any, n_bool := PySem.W.mg_none_of X G z_bool, n_int := PySem.W.mg_none_of X G z_int, n_isinstance := PySem.W.mg_none_of X G z_isinstance, n_len := PySem.W.mg_none_of X G z_len, n_range := PySem.W.mg_none_of X G z_range, n_str := PySem.W.mg_none_of X G z_str, n_tuple := PySem.W.mg_none_of X G z_tuple, t_DEEPEST := _, c_DEEPEST := PySem.W.mg_of X G y_DEEPEST }
  refine ⟨PySem.W.fnOf "law" "law" (defArgs s_l_law) (defBody s_l_law) (defScope s_l_law) .none kV20 dc20 pm20 an20 cd20 ct20, fun s v => .of_eq rfl, fun base _ _ => ?_⟩
  exact (ok_l_law (P := l.prog) (w := w) (base := base) T).imp (law_sp main)
end Wk
open PySem PySem.W PyProof.Rows
set_option maxRecDepth 100000 in
set_option maxHeartbeats 0 in
theorem PySem.Challenge.cw_patternback_k04_flat_patterns_holds : PySem.Challenge.rw_patternback_k04_flat_patterns.Holds := by
  w_on; o_law; k_head; (case hw => w_witness2)
  k_fill
  refine L2.walk_of (l := PySem.Challenge.rw_patternback_k04_flat_patterns) (n := 63) (k := 204) (x := "_law_script") (CX := fun _ => L2.CX0) (sp := fun w => Wk.spLaw _) rfl (by decide) rfl ⟨rfl, by decide, by decide⟩ (fun w h Y => PySem.W.kIn_of Y) ?F (fun _ _ a ns hl _ hS => ⟨a, ns, rfl, hS, hl, fun _ => rfl⟩) (fun _ _ _ _ _ h => h)
  case F =>
    intro w mg fa h KX G hmg
    refine' Wk.all_mk KX G hmg Mt.main ?a0 ?l0 ?c0 ?k0 ?a1 ?l1 ?c1 ?k1 ?a2 ?l2 ?c2 ?k2 ?a3 ?l3 ?c3 ?k3 ?a4 ?l4 ?c4 ?k4 ?a5 ?l5 ?c5 ?k5 ?a6 ?l6 ?c6 ?k6 ?a7 ?l7 ?c7 ?k7 ?a8 ?l8 ?c8 ?k8 ?a9 ?l9 ?c9 ?k9 ?a10 ?l10 ?c10 ?k10 ?a11 ?l11 ?c11 ?k11 ?a12 ?l12 ?c12 ?k12 ?a13 ?l13 ?c13 ?k13 ?a14 ?l14 ?c14 ?k14 ?a15 ?l15 ?c15 ?k15 ?a16 ?l16 ?c16 ?k16 ?a17 ?l17 ?c17 ?k17 ?a18 ?l18 ?c18 ?k18 ?a19 ?l19 ?c19 ?k19 ?a20 ?l20 ?c20 ?k20 ?z_all ?z_any ?z_bool ?z_int ?z_isinstance ?z_len ?z_range ?z_str ?z_tuple ?y_DEEPEST
    (case a0 => k_is)
    (case l0 => k_is)
    (case c0 => k_is)
    (case k0 => k_is)
    (case a1 => k_is)
    (case l1 => k_is)
    (case c1 => k_is)
    (case k1 => k_is)
    (case a2 => k_is)
    (case l2 => k_is)
    (case c2 => k_is)
    (case k2 => k_is)
    (case a3 => k_is)
    (case l3 => k_is)
    (case c3 => k_is)
    (case k3 => k_is)
    (case a4 => k_is)
    (case l4 => k_is)
    (case c4 => k_is)
    (case k4 => k_is)
    (case a5 => k_is)
    (case l5 => k_is)
    (case c5 => k_is)
    (case k5 => k_is)
    (case a6 => k_is)
    (case l6 => k_is)
    (case c6 => k_is)
    (case k6 => k_is)
    (case a7 => k_is)
    (case l7 => k_is)
    (case c7 => k_is)
    (case k7 => k_is)
    (case a8 => k_is)
    (case l8 => k_is)
    (case c8 => k_is)
    (case k8 => k_is)
    (case a9 => k_is)
    (case l9 => k_is)
    (case c9 => k_is)
    (case k9 => k_is)
    (case a10 => k_is)
    (case l10 => k_is)
    (case c10 => k_is)
    (case k10 => k_is)
    (case a11 => k_is)
    (case l11 => k_is)
    (case c11 => k_is)
    (case k11 => k_is)
    (case a12 => k_is)
    (case l12 => k_is)
    (case c12 => k_is)
    (case k12 => k_is)
    (case a13 => k_is)
    (case l13 => k_is)
    (case c13 => k_is)
    (case k13 => k_is)
    (case a14 => k_is)
    (case l14 => k_is)
    (case c14 => k_is)
    (case k14 => k_is)
    (case a15 => k_is)
    (case l15 => k_is)
    (case c15 => k_is)
    (case k15 => k_is)
    (case a16 => k_is)
    (case l16 => k_is)
    (case c16 => k_is)
    (case k16 => k_is)
    (case a17 => k_is)
    (case l17 => k_is)
    (case c17 => k_is)
    (case k17 => k_is)
    (case a18 => k_is)
    (case l18 => k_is)
    (case c18 => k_is)
    (case k18 => k_is)
    (case a19 => k_is)
    (case l19 => k_is)
    (case c19 => k_is)
    (case k19 => k_is)
    (case a20 => k_is)
    (case l20 => k_is)
    (case c20 => k_is)
    (case k20 => k_is)
    (case z_all => k_is)
    (case z_any => k_is)
    (case z_bool => k_is)
    (case z_int => k_is)
    (case z_isinstance => k_is)
    (case z_len => k_is)
    (case z_range => k_is)
    (case z_str => k_is)
    (case z_tuple => k_is)
    (case y_DEEPEST => k_is)
#print axioms PySem.Challenge.cw_patternback_k04_flat_patterns_holds
