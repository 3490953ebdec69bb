import PyProof.Rows.All
import Wide.All
import OpenK.AllK
import Wide.FinOn
import HandS.ForMost
import HandS.Walk
import HandS.Rev
import HandS.IsInst
import HandS.TupAny
import HandS.TupLen
import HandS.Style
import HandS.Flow
import HandS.WordsExc
import HandS.ExcCtx
import HandS.HotCalls
import HandS.ExcIs
import PySem.Challenge.RW_patternback_k06_refused
set_option Elab.async false
set_option linter.all false
set_option autoImplicit false
set_option maxRecDepth 100000
set_option maxHeartbeats 4000000
section
/-! Mini: a pure evaluator for the fragment of Python that the program and the laws use. -/
namespace Mini

/-- an answer, an own exception (by its number), or: not covered -/
inductive R (α : Type) where
  | ok (a : α) | exc (c : Nat) | bad
namespace R
def bind {α β : Type} : R α → (α → R β) → R β
  | .ok a, f => f a
  | .exc c, _ => .exc c
  | .bad, _ => .bad
@[simp] theorem bind_ok {α β : Type} (a : α) (f : α → R β) : (R.ok a).bind f = f a := (rfl : _ = _).trans rfl
@[simp] theorem bind_bad {α β : Type} (f : α → R β) : (R.bad : R α).bind f = .bad := (rfl : _ = _).trans rfl
@[simp] theorem bind_exc {α β : Type} (c : Nat) (f : α → R β) : (R.exc c : R α).bind f = .exc c := (rfl : _ = _).trans rfl
/-- a part that is not covered -/
def of {α : Type} : Option α → R α
  | some a => .ok a
  | none => .bad
@[simp] theorem of_some {α : Type} (a : α) : R.of (some a) = .ok a := (rfl : _ = _).trans rfl
@[simp] theorem of_none {α : Type} : (R.of none : R α) = .bad := (rfl : _ = _).trans rfl
/-- no exception may leave here -/
def nox {α : Type} : R α → R α
  | .ok a => .ok a
  | _ => .bad
@[simp] theorem nox_ok {α : Type} (a : α) : (R.ok a).nox = .ok a := (rfl : _ = _).trans rfl
end R

/-- data -/
inductive D where
  | non | bl (b : Bool) | int (i : Int) | str (s : List Nat)
  | tup (ds : List D) | lst (ds : List D) | scr (ns : List Int) | own (k : Nat) | dic (n : Nat)

/-- owned objects: a list, a dict of zints, a dict of tuples of zints (all values True) -/
inductive Ob where
  | L (ds : List D) | DI (ks : List Int) | DT (ks : List (List Int))

abbrev Env := List (Option D)
abbrev Sto := List Ob
abbrev M := Env → Sto → R (D × Sto)
abbrev T := Env → Sto → R (Bool × Sto)
abbrev A := Env → Sto → R (List D × Sto)
abbrev PO := Env → Sto → R (Option Int × Sto)
inductive O where
  | nx (e : Env) | rt (d : D) | bk (e : Env) | ct (e : Env)
abbrev S := Env → Sto → R (O × Sto)
abbrev F := List D → Sto → R (D × Sto)

/-- the longest sequence -/
abbrev line : Nat := 16777216
@[simp] theorem line_eq : line = 16777216 := (rfl : _ = _).trans rfl

/-! ### values -/
mutual
def deq : D → D → Bool
  | .non, .non => true
  | .bl a, .bl b => a == b
  | .int a, .int b => a == b
  | .bl a, .int b => (if a then 1 else 0) == b
  | .int a, .bl b => a == (if b then 1 else 0)
  | .str a, .str b => a == b
  | .tup a, .tup b => deqL a b
  | .lst a, .lst b => deqL a b
  | _, _ => false
def deqL : List D → List D → Bool
  | [], [] => true
  | x :: xs, y :: ys => deq x y && deqL xs ys
  | _, _ => false
end
mutual
/-- data that == walks: no script, no owned object; its depth -/
@[simp] def plain : D → Bool
  | .scr _ => false
  | .own _ => false
  | .dic _ => false
  | .str z => z.all fun c => decide (c < 1114112)
  | .tup ds => plainL ds
  | .lst ds => plainL ds
  | _ => true
@[simp] def plainL : List D → Bool
  | [] => true
  | d :: ds => plain d && plainL ds
end
mutual
def dep : D → Nat
  | .tup ds => depL ds + 1
  | .lst ds => depL ds + 1
  | _ => 0
def depL : List D → Nat
  | [] => 0
  | d :: ds => max (dep d) (depL ds)
end
/-- an owned list is seen as a list -/
def rz (s : Sto) : D → D
  | .own k => match s[k]? with
    | some (.L ds) => .lst ds
    | _ => .own k
  | d => d
@[simp] theorem rz_non (s : Sto) : rz s .non = .non := (rfl : _ = _).trans rfl
@[simp] theorem rz_bl (s : Sto) (b : Bool) : rz s (.bl b) = .bl b := (rfl : _ = _).trans rfl
@[simp] theorem rz_int (s : Sto) (i : Int) : rz s (.int i) = .int i := (rfl : _ = _).trans rfl
@[simp] theorem rz_str (s : Sto) (z : List Nat) : rz s (.str z) = .str z := (rfl : _ = _).trans rfl
@[simp] theorem rz_tup (s : Sto) (ds : List D) : rz s (.tup ds) = .tup ds := (rfl : _ = _).trans rfl
@[simp] theorem rz_lst (s : Sto) (ds : List D) : rz s (.lst ds) = .lst ds := (rfl : _ = _).trans rfl
@[simp] theorem rz_scr (s : Sto) (ns : List Int) : rz s (.scr ns) = .scr ns := (rfl : _ = _).trans rfl
@[simp] theorem rz_dic (s : Sto) (n : Nat) : rz s (.dic n) = .dic n := (rfl : _ = _).trans rfl
theorem rz_own {s : Sto} {k : Nat} {ds : List D} (h : s[k]? = some (.L ds)) : rz s (.own k) = .lst ds := by simp only [rz, h]
theorem rz_ownT {s : Sto} {k : Nat} {ks : List (List Int)} (h : s[k]? = some (.DT ks)) : rz s (.own k) = .own k := by simp only [rz, h]
theorem rz_ownI {s : Sto} {k : Nat} {ks : List Int} (h : s[k]? = some (.DI ks)) : rz s (.own k) = .own k := by simp only [rz, h]
@[simp] def flat : D → Bool
  | .bl _ => true
  | .int _ => true
  | .str _ => true
  | .non => true
  | _ => false
def pos (n : Nat) (i : Int) : Option Nat := if 0 ≤ i then (if i < n then some i.toNat else none) else if -(n : Int) ≤ i then some (i + n).toNat else none
def six (n d : Nat) : Option Int → Nat
  | none => d
  | some v => if v < 0 then (v + (n : Int)).toNat else min v.toNat n
def cut {α : Type} (xs : List α) (lo hi : Option Int) : List α := (xs.drop (six xs.length 0 lo)).take (six xs.length xs.length hi - six xs.length 0 lo)
def glue (sep : List Nat) : List (List Nat) → List Nat
  | [] => []
  | [x] => x
  | x :: y :: r => x ++ sep ++ glue sep (y :: r)
@[simp] def zstrs : List D → Option (List (List Nat))
  | [] => some []
  | .str s :: r => (zstrs r).map (s :: ·)
  | _ :: _ => none
@[simp] def bls : List D → Option (List Bool)
  | [] => some []
  | .bl s :: r => (bls r).map (s :: ·)
  | _ :: _ => none
@[simp] def zints : List D → Option (List Int)
  | [] => some []
  | .int s :: r => (zints r).map (s :: ·)
  | _ :: _ => none
mutual
/-- nothing owned within -/
@[simp] def free : D → Bool
  | .own _ => false
  | .tup ds => freeL ds
  | .lst ds => freeL ds
  | _ => true
@[simp] def freeL : List D → Bool
  | [] => true
  | d :: ds => free d && freeL ds
end
/-- .. or nothing is owned at all -/
@[simp] def chk (s : Sto) (ds : List D) : Bool := s.isEmpty || freeL ds
def small64 (i : Int) : Prop := -(2 ^ 64) < i ∧ i < 2 ^ 64
instance (i : Int) : Decidable (small64 i) := inferInstanceAs (Decidable (_ ∧ _))

/-! ### operators on two values (owned lists are seen as lists) -/
abbrev Op := Sto → D → D → Option D
@[simp] def opAdd : Op
  | _, .int i, .int j => some (.int (i + j))
  | _, .str a, .str b => if a.length + b.length ≤ line then some (.str (a ++ b)) else none
  | _, .lst a, .lst b => if a.length + b.length ≤ line then some (.lst (a ++ b)) else none
  | _, _, _ => none
@[simp] def opSub : Op
  | _, .int i, .int j => some (.int (i - j))
  | _, _, _ => none
@[simp] def opMul : Op
  | _, .int i, .int j => if small64 i ∨ small64 j then some (.int (i * j)) else none
  | _, .lst a, .int k => if 0 ≤ k ∧ k < 2 ^ 63 ∧ a.length * k.toNat ≤ line then some (.lst (List.replicate k.toNat a).flatten) else none
  | _, .str a, .int k => if 0 ≤ k ∧ k ≤ 1000 ∧ a.length ≤ 1000 then some (.str (List.replicate k.toNat a).flatten) else none
  | _, _, _ => none
@[simp] def opDiv : Op
  | _, .int i, .int j => if 0 < j ∧ j < 1073741824 then some (.int (i / j)) else none
  | _, _, _ => none
@[simp] def opMod : Op
  | _, .int i, .int j => if 0 < j then some (.int (i % j)) else none
  | _, _, _ => none
@[simp] def cmI (p : Int → Int → Bool) : Op
  | _, .int i, .int j => some (.bl (p i j))
  | _, _, _ => none
abbrev opLt : Op := cmI fun i j => decide (i < j)
abbrev opLe : Op := cmI fun i j => decide (i ≤ j)
abbrev opGt : Op := cmI fun i j => decide (j < i)
abbrev opGe : Op := cmI fun i j => decide (j ≤ i)
def eqB : D → D → Option Bool
  | .int i, .int j => some (decide (i = j))
  | .str a, .str b => some (decide (a = b))
  | .bl a, .bl b => some (decide (a = b))
  | x, y => if plain x = true ∧ plain y = true ∧ dep x ≤ 60 ∧ dep y ≤ 60 then some (deq x y) else none
@[simp] def opEq : Op := fun _ x y => (eqB x y).map .bl
@[simp] def opNe : Op := fun _ x y => (eqB x y).map fun b => .bl (!b)
def inD (x : D) (ds : List D) : Bool := ds.any fun y => deq y x
def opInB (s : Sto) : D → D → Option Bool
  | .str [c], .str z => some (decide (c ∈ z))
  | x, .lst ds => if flat x && ds.all flat then some (inD x ds) else none
  | x, .tup ds => if flat x && ds.all flat then some (inD x ds) else none
  | .int i, .own k => match s[k]? with
    | some (.DI ks) => some (decide (i ∈ ks))
    | _ => none
  | .tup ds, .own k => match s[k]?, zints ds with
    | some (.DT ks), some js => some (decide (js ∈ ks))
    | _, _ => none
  | _, _ => none
@[simp] def opIn : Op := fun s x y => (opInB s x y).map .bl
@[simp] def opNotIn : Op := fun s x y => (opInB s x y).map fun b => .bl (!b)
/-- is: with None, or two truths -/
def opIsB : D → D → Option Bool
  | .non, .non => some true
  | _, .non => some false
  | .bl a, .bl b => some (a == b)
  | _, _ => none
@[simp] def opIs : Op := fun _ x y => (opIsB x y).map .bl
@[simp] def opIsNot : Op := fun _ x y => (opIsB x y).map fun b => .bl (!b)
def opIx : Op
  | _, .lst ds, .int i => (pos ds.length i).bind fun j => ds[j]?
  | _, .tup ds, .int i => (pos ds.length i).bind fun j => ds[j]?
  | _, .str z, .int i => if z.length ≤ line then ((pos z.length i).bind fun j => z[j]?).map fun c => .str [c] else none
  | _, .scr ns, .int i => ((pos ns.length i).bind fun j => ns[j]?).map .int
  | _, _, _ => none

/-- the sign at a place -/
def at0 (z : List Nat) (k : Nat) : Nat := z.getD k 0
@[simp] theorem eqB_int (i j : Int) : eqB (.int i) (.int j) = some (decide (i = j)) := (rfl : _ = _).trans rfl
@[simp] theorem eqB_str (i j : List Nat) : eqB (.str i) (.str j) = some (decide (i = j)) := (rfl : _ = _).trans rfl
@[simp] theorem eqB_bl (i j : Bool) : eqB (.bl i) (.bl j) = some (decide (i = j)) := (rfl : _ = _).trans rfl
@[simp] theorem eqB_lst (i j : List D) : eqB (.lst i) (.lst j) = if plainL i = true ∧ plainL j = true ∧ depL i ≤ 59 ∧ depL j ≤ 59 then some (deqL i j) else none := by
  simp [eqB, plain, dep, deq]
@[simp] theorem eqB_tup (i j : List D) : eqB (.tup i) (.tup j) = if plainL i = true ∧ plainL j = true ∧ depL i ≤ 59 ∧ depL j ≤ 59 then some (deqL i j) else none := by
  simp [eqB, plain, dep, deq]
@[simp] theorem opInB_sg (s : Sto) (c : Nat) (z : List Nat) : opInB s (.str [c]) (.str z) = some (decide (c ∈ z)) := (rfl : _ = _).trans rfl
theorem opInB_lst (s : Sto) (x : D) (ds : List D) (h : flat x = true) (h2 : ds.all flat = true) : opInB s x (.lst ds) = some (inD x ds) := by
  unfold opInB; split <;> simp_all
theorem opInB_tup (s : Sto) (x : D) (ds : List D) (h : flat x = true) (h2 : ds.all flat = true) : opInB s x (.tup ds) = some (inD x ds) := by
  unfold opInB; split <;> simp_all
theorem opInB_DI {s : Sto} {k : Nat} {ks : List Int} (h : s[k]? = some (.DI ks)) (i : Int) : opInB s (.int i) (.own k) = some (decide (i ∈ ks)) := by
  simp only [opInB, h]
theorem opInB_DT {s : Sto} {k : Nat} {ks : List (List Int)} (h : s[k]? = some (.DT ks)) {ds : List D} {js : List Int} (hj : zints ds = some js) : opInB s (.tup ds) (.own k) = some (decide (js ∈ ks)) := by
  simp only [opInB, h, hj]
@[simp] theorem opIsB_nn : opIsB .non .non = some true := (rfl : _ = _).trans rfl
@[simp] theorem opIsB_bb (a b : Bool) : opIsB (.bl a) (.bl b) = some (a == b) := (rfl : _ = _).trans rfl
@[simp] theorem opIsB_in (i : Int) : opIsB (.int i) .non = some false := (rfl : _ = _).trans rfl
@[simp] theorem opIsB_tn (i : List D) : opIsB (.tup i) .non = some false := (rfl : _ = _).trans rfl
@[simp] theorem opIsB_ln (i : List D) : opIsB (.lst i) .non = some false := (rfl : _ = _).trans rfl
@[simp] theorem opIsB_bn (i : Bool) : opIsB (.bl i) .non = some false := (rfl : _ = _).trans rfl
@[simp] theorem opIx_tup (s : Sto) (ds : List D) (i : Int) : opIx s (.tup ds) (.int i) = (pos ds.length i).bind fun j => ds[j]? := (rfl : _ = _).trans rfl
@[simp] theorem opIx_lst (s : Sto) (ds : List D) (i : Int) : opIx s (.lst ds) (.int i) = (pos ds.length i).bind fun j => ds[j]? := (rfl : _ = _).trans rfl
@[simp] theorem opIx_scr (s : Sto) (ns : List Int) (i : Int) : opIx s (.scr ns) (.int i) = ((pos ns.length i).bind fun j => ns[j]?).map .int := (rfl : _ = _).trans rfl
theorem opIx_str (s : Sto) (z : List Nat) (i : Int) (h0 : 0 ≤ i) (h1 : i < z.length) (hl : z.length ≤ line) : opIx s (.str z) (.int i) = some (.str [at0 z i.toNat]) := by
  have h2 : i.toNat < z.length := by omega
  simp [opIx, pos, h0, h1, show z.length ≤ 16777216 from hl, h2, at0]

/-! ### expressions -/
def mV (i : Nat) : M := fun e s => match e[i]? with
  | some (some d) => .ok (d, s)
  | _ => .bad
def mC (d : D) : M := fun _ s => .ok (d, s)
def aNil : A := fun _ s => .ok ([], s)
def aCons (m : M) (a : A) : A := fun e s => (m e s).bind fun p => (a e p.2).bind fun q => .ok (p.1 :: q.1, q.2)
def mTup (a : A) : M := fun e s => (a e s).bind fun p => if p.1.length ≤ 100 then .ok (.tup p.1, p.2) else .bad
def mLst (a : A) : M := fun e s => (a e s).bind fun p => if p.1.length ≤ 100 ∧ chk p.2 p.1 = true then .ok (.lst p.1, p.2) else .bad
def mOp (f : Op) (a b : M) : M := fun e s => (a e s).bind fun p => (b e p.2).bind fun q => (R.of (f q.2 (rz q.2 p.1) (rz q.2 q.1))).bind fun d => .ok (d, q.2)
def mNeg (a : M) : M := fun e s => (a e s).bind fun p => match p.1 with
  | .int i => .ok (.int (-i), p.2)
  | _ => .bad
@[simp] def isBl : D → Option Bool
  | .bl b => some b
  | _ => none
def mAnd (a b : M) : M := fun e s => (a e s).bind fun p => (R.of (isBl p.1)).bind fun c => if c = true then b e p.2 else .ok (.bl false, p.2)
def mOr (a b : M) : M := fun e s => (a e s).bind fun p => (R.of (isBl p.1)).bind fun c => if c = true then .ok (.bl true, p.2) else b e p.2
def mNot (a : M) : M := fun e s => (a e s).bind fun p => (R.of (isBl p.1)).bind fun c => .ok (.bl (!c), p.2)
def mIf (t : T) (a b : M) : M := fun e s => (t e s).bind fun p => if p.1 = true then a e p.2 else b e p.2
/-- a f b g c -/
def mChain (f g : Op) (a b c : M) : M := fun e s => (a e s).bind fun p => (b e p.2).bind fun q => (R.of ((f q.2 (rz q.2 p.1) (rz q.2 q.1)).bind isBl)).bind fun k =>
  if k = true then (c e q.2).bind fun r => (R.of (g r.2 (rz r.2 q.1) (rz r.2 r.1))).bind fun d => .ok (d, r.2) else .ok (.bl false, q.2)
def poN : PO := fun _ s => .ok (none, s)
def poS (m : M) : PO := fun e s => (m e s).bind fun p => match p.1 with
  | .int i => .ok (some i, p.2)
  | _ => .bad
@[simp] def slD (lo hi : Option Int) : D → Option D
  | .lst ds => some (.lst (cut ds lo hi))
  | .tup ds => some (.tup (cut ds lo hi))
  | .str z => if z.length ≤ line then some (.str (cut z lo hi)) else none
  | .scr ns => some (.lst ((cut ns lo hi).map .int))
  | _ => none
def mSl (a : M) (lo hi : PO) : M := fun e s => (a e s).bind fun p => (lo e p.2).bind fun q => (hi e q.2).bind fun r => (R.of (slD q.1 r.1 (rz r.2 p.1))).bind fun d => .ok (d, r.2)
/-- the call of a def that has nothing to do with what is owned here -/
def mCall (φ : List D → R D) (a : A) : M := fun e s => (a e s).bind fun p => if chk p.2 p.1 = true then (φ p.1).bind fun d => .ok (d, p.2) else .bad
/-- .. of a def that is handed owned objects -/
def mCallG (φ : F) (a : A) : M := fun e s => (a e s).bind fun p => φ p.1 p.2
/-- a built-in of one argument -/
def mB (f : D → Option D) (a : M) : M := fun e s => (a e s).bind fun p => (R.of (f (rz p.2 p.1))).bind fun d => .ok (d, p.2)
@[simp] def bLen : D → Option D
  | .lst ds => some (.int ds.length)
  | .tup ds => some (.int ds.length)
  | .str z => if z.length ≤ line then some (.int z.length) else none
  | .scr ns => some (.int ns.length)
  | .dic n => some (.int n)
  | _ => none
/-- len of an owned dict -/
def mLenD (a : M) : M := fun e s => (a e s).bind fun p => match p.1 with
  | .own k => match p.2[k]? with
    | some (.DT ks) => .ok (.int ks.length, p.2)
    | _ => .bad
  | _ => .bad
@[simp] def bTup : D → Option D
  | .lst ds => some (.tup ds)
  | .tup ds => some (.tup ds)
  | _ => none
@[simp] def bList : D → Option D
  | .lst ds => some (.lst ds)
  | _ => none
@[simp] def bAll : D → Option D
  | .lst ds => (bls ds).map fun bs => .bl (bs.all id)
  | _ => none
@[simp] def bAny : D → Option D
  | .lst ds => (bls ds).map fun bs => .bl (bs.any id)
  | _ => none
@[simp] def bSum : D → Option D
  | .lst ds => (zints ds).map fun ns => .int ns.sum
  | _ => none
def maxI : List Int → Int
  | [] => 0
  | [x] => x
  | x :: y :: r => max x (maxI (y :: r))
@[simp] def bMax : D → Option D
  | .lst ds => match zints ds with
    | some (n :: ns) => some (.int (maxI (n :: ns)))
    | _ => none
  | _ => none
@[simp] def bInt : D → Option D
  | .int i => some (.int i)
  | .bl b => some (.int (if b then 1 else 0))
  | _ => none
inductive Ty where
  | bool | int | str | tuple | list
  deriving DecidableEq
@[simp] def isTy : Ty → D → Option D
  | t, .non => some (.bl false)
  | t, .bl _ => some (.bl (decide (t = .bool) || decide (t = .int)))
  | t, .int _ => some (.bl (decide (t = .int)))
  | t, .str _ => some (.bl (decide (t = .str)))
  | t, .tup _ => some (.bl (decide (t = .tuple)))
  | t, .lst _ => some (.bl (decide (t = .list)))
  | t, _ => none
/-- min, max of two zints -/
@[simp] def opMin : Op
  | _, .int i, .int j => some (.int (if j < i then j else i))
  | _, _, _ => none
@[simp] def opMax : Op
  | _, .int i, .int j => some (.int (if i < j then j else i))
  | _, _, _ => none
@[simp] def joinD (sep : List Nat) : D → Option D
  | .lst ds => (zstrs ds).bind fun xs => if (xs.map (·.length)).sum + xs.length * sep.length ≤ line then some (.str (glue sep xs)) else none
  | _ => none
/-- methods of an owned list -/
def mApp (o a : M) : M := fun e s => (o e s).bind fun p => match p.1 with
  | .own k => match p.2[k]? with
    | some (.L _) => (a e p.2).bind fun q => match q.2[k]? with
      | some (.L ds) => if ds.length < line ∧ free q.1 = true then .ok (.non, q.2.set k (.L (ds ++ [q.1]))) else .bad
      | _ => .bad
    | _ => .bad
  | _ => .bad
def mPop (o : M) : M := fun e s => (o e s).bind fun p => match p.1 with
  | .own k => match p.2[k]? with
    | some (.L ds) => match ds[ds.length - 1]? with
      | some d => .ok (d, p.2.set k (.L ds.dropLast))
      | none => .bad
    | _ => .bad
  | _ => .bad
def mUpd (f : List D → List D) (o : M) : M := fun e s => (o e s).bind fun p => match p.1 with
  | .own k => match p.2[k]? with
    | some (.L ds) => .ok (.non, p.2.set k (.L (f ds)))
    | _ => .bad
  | _ => .bad
abbrev mRev : M → M := mUpd List.reverse
abbrev mClear : M → M := mUpd fun _ => []
/-- an owned list seen as it stands -/
@[simp] def fzD (s : Sto) : D → Option D
  | .own k => match s[k]? with
    | some (.L ds) => some (.lst ds)
    | _ => none
  | .tup ds => if freeL ds = true then some (.tup ds) else none
  | d => some d
mutual
/-- no list within -/
@[simp] def noL : D → Bool
  | .non => true
  | .bl _ => true
  | .int _ => true
  | .str _ => true
  | .tup ds => noLL ds
  | _ => false
@[simp] def noLL : List D → Bool
  | [] => true
  | d :: ds => noL d && noLL ds
end
/-- m, while what is owned stands still; it hands back no list -/
def mFz (m : M) : M := fun e s => (m (e.map fun o => o.bind (fzD s)) []).bind fun p => if noL p.1 = true then .ok (p.1, s) else .bad

/-! ### tests -/
@[simp] def tru : D → Option Bool
  | .non => some false
  | .bl b => some b
  | .int i => some (i != 0)
  | .str z => if z.length ≤ line then some (!z.isEmpty) else none
  | .lst ds => some (!ds.isEmpty)
  | .tup ds => some (!ds.isEmpty)
  | _ => none
def tV (m : M) : T := fun e s => (m e s).bind fun p => (R.of (isBl p.1)).bind fun b => .ok (b, p.2)
def tT (m : M) : T := fun e s => (m e s).bind fun p => (R.of (tru (rz p.2 p.1))).bind fun b => .ok (b, p.2)
def tAnd (a b : T) : T := fun e s => (a e s).bind fun p => if p.1 = true then b e p.2 else .ok (false, p.2)
def tOr (a b : T) : T := fun e s => (a e s).bind fun p => if p.1 = true then .ok (true, p.2) else b e p.2
def tNot (a : T) : T := fun e s => (a e s).bind fun p => .ok (!p.1, p.2)
def tYes : T := fun _ s => .ok (true, s)

/-! ### what is walked -/
def sgn (z : List Nat) : List D := z.map fun c => .str [c]
@[simp] def walkD : D → Option (List D)
  | .lst ds => some ds
  | .tup ds => some ds
  | .str z => some (sgn z)
  | _ => none
/-- a sequence; an owned one may not be walked (but for mFz) -/
def iSeq (m : M) : A := fun e s => (m e s).bind fun p => (R.of (walkD p.1)).bind fun ds => .ok (ds, p.2)
def rng (lo : Int) (n : Nat) : List D := (List.range n).map fun k => .int (lo + ((k : Nat) : Int))
def iR1 (m : M) : A := fun e s => (m e s).bind fun p => match p.1 with
  | .int j => if -(2 ^ 62) ≤ j ∧ j < 2 ^ 62 then .ok (rng 0 j.toNat, p.2) else .bad
  | _ => .bad
def iR2 (a b : M) : A := fun e s => (a e s).bind fun p => (b e p.2).bind fun q => match p.1, q.1 with
  | .int i, .int j => if -(2 ^ 62) ≤ i ∧ i < 2 ^ 62 ∧ -(2 ^ 62) ≤ j ∧ j < 2 ^ 62 then .ok (rng i (j - i).toNat, q.2) else .bad
  | _, _ => .bad
@[simp] def revD : D → Option (List D)
  | .lst ds => some ds.reverse
  | .tup ds => some ds.reverse
  | _ => none
def iRev (m : M) : A := fun e s => (m e s).bind fun p => (R.of (revD p.1)).bind fun ds => .ok (ds, p.2)
def lcF (i : Nat) (t : T) (m : M) (e : Env) : List D → Sto → R (List D × Sto)
  | [], s => .ok ([], s)
  | x :: xs, s => (t (e.set i (some x)) s).nox.bind fun p =>
    if p.1 = true then (m (e.set i (some x)) p.2).nox.bind fun q => if chk q.2 [q.1] = true then (lcF i t m e xs q.2).bind fun r => .ok (q.1 :: r.1, r.2) else .bad else lcF i t m e xs p.2
def mLc (i : Nat) (it : A) (t : T) (m : M) : M := fun e s => (it e s).bind fun p => if p.1.length ≤ line then (lcF i t m e p.1 p.2).bind fun q => .ok (.lst q.1, q.2) else .bad

/-! ### statements -/
def sNil : S := fun e s => .ok (.nx e, s)
def sCons (a b : S) : S := fun e s => (a e s).bind fun p => match p.1 with
  | .nx e' => b e' p.2
  | o => .ok (o, p.2)
def sSet (i : Nat) (m : M) : S := fun e s => (m e s).bind fun p => .ok (.nx (e.set i (some p.1)), p.2)
/-- x = a display of an object that is ours alone from here on -/
def sOwnL (i : Nat) (a : A) : S := fun e s => (a e s).bind fun p => if p.1.length ≤ 100 ∧ freeL p.1 = true then .ok (.nx (e.set i (some (.own p.2.length))), p.2 ++ [.L p.1]) else .bad
def mOwnDI : M := fun e s => .ok (.own s.length, s ++ [.DI []])
def mOwnDT : M := fun e s => .ok (.own s.length, s ++ [.DT []])
def sEx (m : M) : S := fun e s => (m e s).bind fun p => .ok (.nx e, p.2)
def sRet (m : M) : S := fun e s => (m e s).bind fun p => .ok (.rt p.1, p.2)
def sIf (t : T) (a b : S) : S := fun e s => (t e s).bind fun p => if p.1 = true then a e p.2 else b e p.2
def sCt : S := fun e s => .ok (.ct e, s)
def sBk : S := fun e s => .ok (.bk e, s)
def sPs : S := fun e s => .ok (.nx e, s)
def sBad : S := fun _ _ => .bad
def sRaise (c : Nat) : S := fun _ _ => .exc c
/-- o[i] = v -/
def putS (s : Sto) (k : Nat) (i v : D) : Option Sto := match s[k]?, i, v with
  | some (.L ds), .int j, v => (pos ds.length j).bind fun n => if free v = true then some (s.set k (.L (ds.set n v))) else none
  | some (.DI ks), .int j, .bl true => if ks.length < line then some (s.set k (.DI (if j ∈ ks then ks else ks ++ [j]))) else none
  | some (.DT ks), .tup ds, .bl true => (zints ds).bind fun js => if ks.length < line then some (s.set k (.DT (if js ∈ ks then ks else ks ++ [js]))) else none
  | _, _, _ => none
def sPut (o i v : M) : S := fun e s => (v e s).bind fun p => (o e p.2).bind fun q => (i e q.2).bind fun r => match q.1 with
  | .own k => (R.of (putS r.2 k r.1 p.1)).bind fun s' => .ok (.nx e, s')
  | _ => .bad
def forF (i : Nat) (b : S) : List D → Env → Sto → R (O × Sto)
  | [], e, s => .ok (.nx e, s)
  | x :: xs, e, s => (b (e.set i (some x)) s).bind fun p => match p.1 with
    | .nx e' => forF i b xs e' p.2
    | .ct e' => forF i b xs e' p.2
    | .bk e' => .ok (.nx e', p.2)
    | .rt d => .ok (.rt d, p.2)
def sFor (i : Nat) (it : A) (b : S) : S := fun e s => (it e s).bind fun p => forF i b p.1 e p.2
def whF (t : T) (b : S) : Nat → Env → Sto → Option (R (O × Sto))
  | 0, _, _ => none
  | n + 1, e, s => match t e s with
    | .bad => some .bad
    | .exc c => some (.exc c)
    | .ok (false, s') => some (.ok (.nx e, s'))
    | .ok (true, s') => match b e s' with
      | .bad => some .bad
      | .exc c => some (.exc c)
      | .ok (.nx e', s2) => whF t b n e' s2
      | .ok (.ct e', s2) => whF t b n e' s2
      | .ok (.bk e', s2) => some (.ok (.nx e', s2))
      | .ok (.rt d, s2) => some (.ok (.rt d, s2))
open Classical in
noncomputable def sWhile (t : T) (b : S) : S := fun e s => if h : ∃ n r, whF t b n e s = some r then (Classical.choose_spec h).choose else .bad

/-! ### a def -/
/-- the result of a body: what is handed back (None where it runs through) -/
def fin (r : R (O × Sto)) : R (D × Sto) := r.bind fun p => match p.1 with
  | .rt d => .ok (d, p.2)
  | .nx _ => .ok (.non, p.2)
  | _ => .bad
mutual
/-- objects from the n-th on are seen as they stand -/
@[simp] def frz (n : Nat) (s : Sto) : D → Option D
  | .own k => if k < n then some (.own k) else match s[k]? with
    | some (.L ds) => some (.lst ds)
    | some (.DT ks) => some (.dic ks.length)
    | _ => none
  | .tup ds => (frzL n s ds).map .tup
  | d => some d
@[simp] def frzL (n : Nat) (s : Sto) : List D → Option (List D)
  | [] => some []
  | d :: ds => (frz n s d).bind fun x => (frzL n s ds).map (x :: ·)
end
def ent (names : Nat) (ds : List D) : Env := ds.map some ++ List.replicate (names - ds.length) none
/-- a def of so many names: the arguments, then nothing; what is handed back is frozen, the def's own objects are gone -/
def runG (names : Nat) (b : S) : F := fun ds s => (fin (b (ent names ds) s)).bind fun p => (R.of (frz s.length p.2 p.1)).bind fun d => .ok (d, p.2.take s.length)
def run (names : Nat) (b : S) : List D → R D := fun ds => (runG names b ds []).bind fun p => .ok p.1

/-! ### while -/
theorem whF_det {t : T} {b : S} : ∀ (n m : Nat) (e : Env) (s : Sto) (r r' : R (O × Sto)), whF t b n e s = some r → whF t b m e s = some r' → r = r' := by
  intro n
  induction n with
  | zero => intro m e s r r' h; simp [whF] at h
  | succ n ih =>
    intro m e s r r' h h'
    cases m with
    | zero => simp [whF] at h'
    | succ m =>
      unfold whF at h h'
      split at h <;> simp_all
      split at h <;> simp_all
      · exact ih _ _ _ _ _ h h'
      · exact ih _ _ _ _ _ h h'
theorem sWhile_eq {t : T} {b : S} {n : Nat} {e : Env} {s : Sto} {r : R (O × Sto)} (h : whF t b n e s = some r) : sWhile t b e s = r := by
  have hx : ∃ n r, whF t b n e s = some r := ⟨n, r, h⟩
  unfold sWhile
  rw [dif_pos hx]
  exact whF_det _ _ _ _ _ _ (Classical.choose_spec hx).choose_spec h
theorem sWhile_bad_of {t : T} {b : S} {e : Env} {s : Sto} (h : ∀ n r, whF t b n e s ≠ some r) : sWhile t b e s = .bad := by
  unfold sWhile
  rw [dif_neg]
  rintro ⟨n, r, q⟩
  exact h n r q
theorem sWhile_false {t : T} {b : S} {e : Env} {s s' : Sto} (h : t e s = .ok (false, s')) : sWhile t b e s = .ok (.nx e, s') :=
  sWhile_eq (n := 1) (by unfold whF; rw [h])
theorem sWhile_true {t : T} {b : S} {e e' : Env} {s s' s2 : Sto} (h : t e s = .ok (true, s')) (hb : b e s' = .ok (.nx e', s2) ∨ b e s' = .ok (.ct e', s2)) : sWhile t b e s = sWhile t b e' s2 := by
  have step : ∀ n, whF t b (n + 1) e s = whF t b n e' s2 := fun n => by
    rw [whF, h]
    rcases hb with hb | hb <;> simp only [hb]
  by_cases hx : ∃ n r, whF t b n e' s2 = some r
  · obtain ⟨n, r, q⟩ := hx
    rw [sWhile_eq q]
    exact sWhile_eq (n := n + 1) (by rw [step]; exact q)
  · rw [sWhile_bad_of fun n r q => hx ⟨n, r, q⟩]
    refine sWhile_bad_of fun n r q => ?_
    cases n with
    | zero => simp [whF] at q
    | succ n => exact hx ⟨n, r, by rw [← step]; exact q⟩
theorem sWhile_ret {t : T} {b : S} {e : Env} {s s' s2 : Sto} {d : D} (h : t e s = .ok (true, s')) (hb : b e s' = .ok (.rt d, s2)) : sWhile t b e s = .ok (.rt d, s2) :=
  sWhile_eq (n := 1) (by unfold whF; rw [h]; simp only [hb])
theorem sWhile_exc {t : T} {b : S} {e : Env} {s s' : Sto} {c : Nat} (h : t e s = .ok (true, s')) (hb : b e s' = .exc c) : sWhile t b e s = .exc c :=
  sWhile_eq (n := 1) (by unfold whF; rw [h]; simp only [hb])
theorem sWhile_brk {t : T} {b : S} {e e' : Env} {s s' s2 : Sto} (h : t e s = .ok (true, s')) (hb : b e s' = .ok (.bk e', s2)) : sWhile t b e s = .ok (.nx e', s2) :=
  sWhile_eq (n := 1) (by unfold whF; rw [h]; simp only [hb])
end Mini
end
section
/-! Ev: the evaluator step by step, the first part always before the rest (for simp) -/
namespace Mini
section
variable {e : Env} {s s' : Sto} {d x y : D} {ds : List D} {i : Nat} {f g : Op}
/-- what a partial value step gives -/
def kOf (s : Sto) : Option D → R (D × Sto)
  | some d => .ok (d, s)
  | none => .bad
@[simp] theorem kOf_some : kOf s (some d) = .ok (d, s) := (rfl : _ = _).trans rfl
@[simp] theorem kOf_none : kOf s none = .bad := (rfl : _ = _).trans rfl
def look : Env → Nat → Option D
  | [], _ => none
  | x :: _, 0 => x
  | _ :: e, n + 1 => look e n
@[simp] theorem look_0 {a : Option D} : look (a :: e) 0 = a := (rfl : _ = _).trans rfl
@[simp] theorem look_s {a : Option D} {n : Nat} : look (a :: e) (n + 1) = look e n := (rfl : _ = _).trans rfl
theorem look_eq : ∀ (e : Env) (i : Nat), look e i = (e[i]?).join
  | [], i => by simp [look]
  | a :: e, 0 => by simp [look]
  | a :: e, n + 1 => by rw [look_s, look_eq e n]; simp
def kV (s : Sto) : Option D → R (D × Sto)
  | some d => .ok (d, s)
  | none => .bad
@[simp] theorem kV_some : kV s (some d) = .ok (d, s) := (rfl : _ = _).trans rfl
@[simp] theorem mV_eq : mV i e s = kV s (look e i) := by
  rw [look_eq]; unfold mV kV
  rcases e[i]? with _ | _ | d <;> rfl
@[simp] theorem mC_eq : mC d e s = .ok (d, s) := (rfl : _ = _).trans rfl
@[simp] theorem aNil_eq : aNil e s = .ok ([], s) := (rfl : _ = _).trans rfl
def kA2 (d : D) : R (List D × Sto) → R (List D × Sto)
  | .ok (ds, s) => .ok (d :: ds, s) | .exc c => .exc c | .bad => .bad
def kA1 (a : A) (e : Env) : R (D × Sto) → R (List D × Sto)
  | .ok (d, s) => kA2 d (a e s) | .exc c => .exc c | .bad => .bad
@[simp] theorem kA2_ok : kA2 d (.ok (ds, s)) = .ok (d :: ds, s) := (rfl : _ = _).trans rfl
@[simp] theorem kA2_exc {c} : kA2 d (.exc c) = .exc c := (rfl : _ = _).trans rfl
@[simp] theorem kA1_ok {a : A} : kA1 a e (.ok (d, s)) = kA2 d (a e s) := (rfl : _ = _).trans rfl
@[simp] theorem kA1_exc {a : A} {c} : kA1 a e (.exc c) = .exc c := (rfl : _ = _).trans rfl
@[simp] theorem aCons_eq {m : M} {a : A} : aCons m a e s = kA1 a e (m e s) := by
  unfold aCons; cases m e s <;> simp [kA1]; rename_i p; cases a e p.2 <;> simp [kA2]
def kTup : R (List D × Sto) → R (D × Sto)
  | .ok (ds, s) => if ds.length ≤ 100 then .ok (.tup ds, s) else .bad | .exc c => .exc c | .bad => .bad
@[simp] theorem kTup_ok : kTup (.ok (ds, s)) = if ds.length ≤ 100 then .ok (.tup ds, s) else .bad := (rfl : _ = _).trans rfl
@[simp] theorem mTup_eq {a : A} : mTup a e s = kTup (a e s) := by unfold mTup; cases a e s <;> simp [kTup]
def kLst : R (List D × Sto) → R (D × Sto)
  | .ok (ds, s) => if ds.length ≤ 100 ∧ chk s ds = true then .ok (.lst ds, s) else .bad | .exc c => .exc c | .bad => .bad
@[simp] theorem kLst_ok : kLst (.ok (ds, s)) = if ds.length ≤ 100 ∧ chk s ds = true then .ok (.lst ds, s) else .bad := (rfl : _ = _).trans rfl
@[simp] theorem mLst_eq {a : A} : mLst a e s = kLst (a e s) := by unfold mLst; cases a e s <;> simp [kLst]
def kOp2 (f : Op) (x : D) : R (D × Sto) → R (D × Sto)
  | .ok (y, s) => kOf s (f s (rz s x) (rz s y)) | .exc c => .exc c | .bad => .bad
def kOp1 (f : Op) (b : M) (e : Env) : R (D × Sto) → R (D × Sto)
  | .ok (x, s) => kOp2 f x (b e s) | .exc c => .exc c | .bad => .bad
@[simp] theorem kOp2_ok : kOp2 f x (.ok (y, s)) = kOf s (f s (rz s x) (rz s y)) := (rfl : _ = _).trans rfl
@[simp] theorem kOp2_exc {c} : kOp2 f x (.exc c) = .exc c := (rfl : _ = _).trans rfl
@[simp] theorem kOp1_ok {b : M} : kOp1 f b e (.ok (x, s)) = kOp2 f x (b e s) := (rfl : _ = _).trans rfl
@[simp] theorem kOp1_exc {b : M} {c} : kOp1 f b e (.exc c) = .exc c := (rfl : _ = _).trans rfl
theorem of_kOf (o : Option D) : ((R.of o).bind fun d => R.ok (d, s)) = kOf s o := by cases o <;> rfl
@[simp] theorem mOp_eq {a b : M} : mOp f a b e s = kOp1 f b e (a e s) := by
  unfold mOp; cases a e s <;> simp [kOp1]; rename_i p; cases b e p.2 <;> simp [kOp2, of_kOf]
def kNeg : R (D × Sto) → R (D × Sto)
  | .ok (.int i, s) => .ok (.int (-i), s) | .ok _ => .bad | .exc c => .exc c | .bad => .bad
@[simp] theorem kNeg_ok {i : Int} : kNeg (.ok (.int i, s)) = .ok (.int (-i), s) := (rfl : _ = _).trans rfl
@[simp] theorem mNeg_eq {a : M} : mNeg a e s = kNeg (a e s) := by
  unfold mNeg kNeg; rcases a e s with ⟨d, s⟩ | _ | _ <;> simp; cases d <;> simp
def kAnd (b : M) (e : Env) : R (D × Sto) → R (D × Sto)
  | .ok (.bl true, s) => b e s | .ok (.bl false, s) => .ok (.bl false, s) | .ok _ => .bad | .exc c => .exc c | .bad => .bad
@[simp] theorem kAnd_t {b : M} : kAnd b e (.ok (.bl true, s)) = b e s := (rfl : _ = _).trans rfl
@[simp] theorem kAnd_f {b : M} : kAnd b e (.ok (.bl false, s)) = .ok (.bl false, s) := (rfl : _ = _).trans rfl
@[simp] theorem mAnd_eq {a b : M} : mAnd a b e s = kAnd b e (a e s) := by
  unfold mAnd kAnd; rcases a e s with ⟨d, s⟩ | _ | _ <;> simp; cases d <;> simp; rename_i q; cases q <;> simp
def kOr (b : M) (e : Env) : R (D × Sto) → R (D × Sto)
  | .ok (.bl false, s) => b e s | .ok (.bl true, s) => .ok (.bl true, s) | .ok _ => .bad | .exc c => .exc c | .bad => .bad
@[simp] theorem kOr_f {b : M} : kOr b e (.ok (.bl false, s)) = b e s := (rfl : _ = _).trans rfl
@[simp] theorem kOr_t {b : M} : kOr b e (.ok (.bl true, s)) = .ok (.bl true, s) := (rfl : _ = _).trans rfl
@[simp] theorem mOr_eq {a b : M} : mOr a b e s = kOr b e (a e s) := by
  unfold mOr kOr; rcases a e s with ⟨d, s⟩ | _ | _ <;> simp; cases d <;> simp; rename_i q; cases q <;> simp
def kNot : R (D × Sto) → R (D × Sto)
  | .ok (.bl b, s) => .ok (.bl (!b), s) | .ok _ => .bad | .exc c => .exc c | .bad => .bad
@[simp] theorem kNot_ok {b : Bool} : kNot (.ok (.bl b, s)) = .ok (.bl (!b), s) := (rfl : _ = _).trans rfl
@[simp] theorem mNot_eq {a : M} : mNot a e s = kNot (a e s) := by
  unfold mNot kNot; rcases a e s with ⟨d, s⟩ | _ | _ <;> simp; cases d <;> simp
def kIf {β : Type} (a b : Env → Sto → R (β × Sto)) (e : Env) : R (Bool × Sto) → R (β × Sto)
  | .ok (true, s) => a e s | .ok (false, s) => b e s | .exc c => .exc c | .bad => .bad
@[simp] theorem kIf_t {β : Type} {a b : Env → Sto → R (β × Sto)} : kIf a b e (.ok (true, s)) = a e s := (rfl : _ = _).trans rfl
@[simp] theorem kIf_f {β : Type} {a b : Env → Sto → R (β × Sto)} : kIf a b e (.ok (false, s)) = b e s := (rfl : _ = _).trans rfl
@[simp] theorem mIf_eq {t : T} {a b : M} : mIf t a b e s = kIf a b e (t e s) := by
  unfold mIf kIf; rcases t e s with ⟨d, s⟩ | _ | _ <;> simp; cases d <;> simp
@[simp] theorem sIf_eq {t : T} {a b : S} : sIf t a b e s = kIf a b e (t e s) := by
  unfold sIf kIf; rcases t e s with ⟨d, s⟩ | _ | _ <;> simp; cases d <;> simp
def kCh4 (g : Op) (y : D) : R (D × Sto) → R (D × Sto)
  | .ok (z, s) => kOf s (g s (rz s y) (rz s z)) | .exc c => .exc c | .bad => .bad
def kCh3 (g : Op) (c : M) (e : Env) (y : D) (s : Sto) : Option D → R (D × Sto)
  | some (.bl true) => kCh4 g y (c e s) | some (.bl false) => .ok (.bl false, s) | _ => .bad
def kCh2 (f g : Op) (c : M) (e : Env) (x : D) : R (D × Sto) → R (D × Sto)
  | .ok (y, s) => kCh3 g c e y s (f s (rz s x) (rz s y)) | .exc c => .exc c | .bad => .bad
def kCh1 (f g : Op) (b c : M) (e : Env) : R (D × Sto) → R (D × Sto)
  | .ok (x, s) => kCh2 f g c e x (b e s) | .exc c => .exc c | .bad => .bad
@[simp] theorem kCh1_ok {b c : M} : kCh1 f g b c e (.ok (x, s)) = kCh2 f g c e x (b e s) := (rfl : _ = _).trans rfl
@[simp] theorem kCh2_ok {c : M} : kCh2 f g c e x (.ok (y, s)) = kCh3 g c e y s (f s (rz s x) (rz s y)) := (rfl : _ = _).trans rfl
@[simp] theorem kCh3_t {c : M} : kCh3 g c e y s (some (.bl true)) = kCh4 g y (c e s) := (rfl : _ = _).trans rfl
@[simp] theorem kCh3_f {c : M} : kCh3 g c e y s (some (.bl false)) = .ok (.bl false, s) := (rfl : _ = _).trans rfl
@[simp] theorem kCh4_ok : kCh4 g y (.ok (x, s)) = kOf s (g s (rz s y) (rz s x)) := (rfl : _ = _).trans rfl
@[simp] theorem mChain_eq {a b c : M} : mChain f g a b c e s = kCh1 f g b c e (a e s) := by
  unfold mChain; rcases a e s with ⟨x, s⟩ | _ | _ <;> simp [kCh1]
  rcases b e s with ⟨y, s⟩ | _ | _ <;> simp [kCh2]
  cases f s (rz s x) (rz s y) with
  | none => simp [kCh3]
  | some d =>
    cases d <;> simp [kCh3]
    rename_i k
    cases k <;> simp
    rcases c e s with ⟨z, s⟩ | _ | _ <;> simp [kCh4, of_kOf]
@[simp] theorem poN_eq : poN e s = .ok (none, s) := (rfl : _ = _).trans rfl
def kPo : R (D × Sto) → R (Option Int × Sto)
  | .ok (.int i, s) => .ok (some i, s) | .ok _ => .bad | .exc c => .exc c | .bad => .bad
@[simp] theorem kPo_ok {i : Int} : kPo (.ok (.int i, s)) = .ok (some i, s) := (rfl : _ = _).trans rfl
@[simp] theorem poS_eq {a : M} : poS a e s = kPo (a e s) := by
  unfold poS kPo; rcases a e s with ⟨d, s⟩ | _ | _ <;> simp; cases d <;> simp
def kSl3 (x : D) (lo : Option Int) : R (Option Int × Sto) → R (D × Sto)
  | .ok (hi, s) => kOf s (slD lo hi (rz s x)) | .exc c => .exc c | .bad => .bad
def kSl2 (h : PO) (e : Env) (x : D) : R (Option Int × Sto) → R (D × Sto)
  | .ok (lo, s) => kSl3 x lo (h e s) | .exc c => .exc c | .bad => .bad
def kSl1 (l h : PO) (e : Env) : R (D × Sto) → R (D × Sto)
  | .ok (x, s) => kSl2 h e x (l e s) | .exc c => .exc c | .bad => .bad
@[simp] theorem kSl1_ok {l h : PO} : kSl1 l h e (.ok (x, s)) = kSl2 h e x (l e s) := (rfl : _ = _).trans rfl
@[simp] theorem kSl2_ok {h : PO} {lo : Option Int} : kSl2 h e x (.ok (lo, s)) = kSl3 x lo (h e s) := (rfl : _ = _).trans rfl
@[simp] theorem kSl3_ok {lo hi : Option Int} : kSl3 x lo (.ok (hi, s)) = kOf s (slD lo hi (rz s x)) := (rfl : _ = _).trans rfl
@[simp] theorem mSl_eq {a : M} {l h : PO} : mSl a l h e s = kSl1 l h e (a e s) := by
  unfold mSl; rcases a e s with ⟨x, s⟩ | _ | _ <;> simp [kSl1]
  rcases l e s with ⟨y, s⟩ | _ | _ <;> simp [kSl2]
  rcases h e s with ⟨z, s⟩ | _ | _ <;> simp [kSl3, of_kOf]
def kCall2 (s : Sto) : R D → R (D × Sto)
  | .ok d => .ok (d, s) | .exc c => .exc c | .bad => .bad
def kCall (φ : List D → R D) : R (List D × Sto) → R (D × Sto)
  | .ok (ds, s) => if chk s ds = true then kCall2 s (φ ds) else .bad | .exc c => .exc c | .bad => .bad
@[simp] theorem kCall2_ok : kCall2 s (.ok d) = .ok (d, s) := (rfl : _ = _).trans rfl
@[simp] theorem kCall2_exc {c} : kCall2 s (.exc c) = .exc c := (rfl : _ = _).trans rfl
@[simp] theorem kCall_ok {φ : List D → R D} : kCall φ (.ok (ds, s)) = if chk s ds = true then kCall2 s (φ ds) else .bad := (rfl : _ = _).trans rfl
@[simp] theorem mCall_eq {φ : List D → R D} {a : A} : mCall φ a e s = kCall φ (a e s) := by
  unfold mCall; rcases a e s with ⟨x, s⟩ | _ | _ <;> simp only [R.bind_ok, R.bind_exc, R.bind_bad, kCall]; split <;> try rfl
  cases φ x <;> rfl
def kG (φ : F) : R (List D × Sto) → R (D × Sto)
  | .ok (ds, s) => φ ds s | .exc c => .exc c | .bad => .bad
@[simp] theorem kG_ok {φ : F} : kG φ (.ok (ds, s)) = φ ds s := (rfl : _ = _).trans rfl
@[simp] theorem mCallG_eq {φ : F} {a : A} : mCallG φ a e s = kG φ (a e s) := by
  unfold mCallG; rcases a e s with ⟨x, s⟩ | _ | _ <;> rfl
def kB (f : D → Option D) : R (D × Sto) → R (D × Sto)
  | .ok (d, s) => kOf s (f (rz s d)) | .exc c => .exc c | .bad => .bad
@[simp] theorem kB_ok {f : D → Option D} : kB f (.ok (d, s)) = kOf s (f (rz s d)) := (rfl : _ = _).trans rfl
@[simp] theorem mB_eq {f : D → Option D} {a : M} : mB f a e s = kB f (a e s) := by
  unfold mB; rcases a e s with ⟨x, s⟩ | _ | _ <;> simp [kB, of_kOf]
def kTV : R (D × Sto) → R (Bool × Sto)
  | .ok (.bl b, s) => .ok (b, s) | .ok _ => .bad | .exc c => .exc c | .bad => .bad
@[simp] theorem kTV_ok {b : Bool} : kTV (.ok (.bl b, s)) = .ok (b, s) := (rfl : _ = _).trans rfl
@[simp] theorem tV_eq {a : M} : tV a e s = kTV (a e s) := by
  unfold tV kTV; rcases a e s with ⟨d, s⟩ | _ | _ <;> simp; cases d <;> simp
def kTT2 (s : Sto) : Option Bool → R (Bool × Sto)
  | some b => .ok (b, s) | none => .bad
def kTT : R (D × Sto) → R (Bool × Sto)
  | .ok (d, s) => kTT2 s (tru (rz s d)) | .exc c => .exc c | .bad => .bad
@[simp] theorem kTT2_some {b : Bool} : kTT2 s (some b) = .ok (b, s) := (rfl : _ = _).trans rfl
@[simp] theorem kTT_ok : kTT (.ok (d, s)) = kTT2 s (tru (rz s d)) := (rfl : _ = _).trans rfl
@[simp] theorem tT_eq {a : M} : tT a e s = kTT (a e s) := by
  unfold tT kTT; rcases a e s with ⟨d, s⟩ | _ | _ <;> simp only [R.bind_ok, R.bind_exc, R.bind_bad]; cases tru (rz s d) <;> rfl
def kTA (b : T) (e : Env) : R (Bool × Sto) → R (Bool × Sto)
  | .ok (true, s) => b e s | .ok (false, s) => .ok (false, s) | .exc c => .exc c | .bad => .bad
@[simp] theorem kTA_t {b : T} : kTA b e (.ok (true, s)) = b e s := (rfl : _ = _).trans rfl
@[simp] theorem kTA_f {b : T} : kTA b e (.ok (false, s)) = .ok (false, s) := (rfl : _ = _).trans rfl
@[simp] theorem tAnd_eq {a b : T} : tAnd a b e s = kTA b e (a e s) := by
  unfold tAnd kTA; rcases a e s with ⟨d, s⟩ | _ | _ <;> simp; cases d <;> simp
def kTO (b : T) (e : Env) : R (Bool × Sto) → R (Bool × Sto)
  | .ok (false, s) => b e s | .ok (true, s) => .ok (true, s) | .exc c => .exc c | .bad => .bad
@[simp] theorem kTO_f {b : T} : kTO b e (.ok (false, s)) = b e s := (rfl : _ = _).trans rfl
@[simp] theorem kTO_t {b : T} : kTO b e (.ok (true, s)) = .ok (true, s) := (rfl : _ = _).trans rfl
@[simp] theorem tOr_eq {a b : T} : tOr a b e s = kTO b e (a e s) := by
  unfold tOr kTO; rcases a e s with ⟨d, s⟩ | _ | _ <;> simp; cases d <;> simp
def kTN : R (Bool × Sto) → R (Bool × Sto)
  | .ok (b, s) => .ok (!b, s) | .exc c => .exc c | .bad => .bad
@[simp] theorem kTN_ok {b : Bool} : kTN (.ok (b, s)) = .ok (!b, s) := (rfl : _ = _).trans rfl
@[simp] theorem tNot_eq {a : T} : tNot a e s = kTN (a e s) := by
  unfold tNot kTN; rcases a e s with ⟨d, s⟩ | _ | _ <;> simp
@[simp] theorem tYes_eq : tYes e s = .ok (true, s) := (rfl : _ = _).trans rfl
def kW (s : Sto) : Option (List D) → R (List D × Sto)
  | some ds => .ok (ds, s) | none => .bad
@[simp] theorem kW_some : kW s (some ds) = .ok (ds, s) := (rfl : _ = _).trans rfl
def kI (w : D → Option (List D)) : R (D × Sto) → R (List D × Sto)
  | .ok (d, s) => kW s (w d) | .exc c => .exc c | .bad => .bad
@[simp] theorem kI_ok {w : D → Option (List D)} : kI w (.ok (d, s)) = kW s (w d) := (rfl : _ = _).trans rfl
@[simp] theorem iSeq_eq {a : M} : iSeq a e s = kI walkD (a e s) := by
  unfold iSeq kI; rcases a e s with ⟨d, s⟩ | _ | _ <;> simp only [R.bind_ok, R.bind_exc, R.bind_bad]; cases walkD d <;> rfl
@[simp] theorem iRev_eq {a : M} : iRev a e s = kI revD (a e s) := by
  unfold iRev kI; rcases a e s with ⟨d, s⟩ | _ | _ <;> simp only [R.bind_ok, R.bind_exc, R.bind_bad]; cases revD d <;> rfl
def kR1 : R (D × Sto) → R (List D × Sto)
  | .ok (.int j, s) => if -(2 ^ 62) ≤ j ∧ j < 2 ^ 62 then .ok (rng 0 j.toNat, s) else .bad | .ok _ => .bad | .exc c => .exc c | .bad => .bad
theorem kR1_ok {j : Int} (h : -(2 ^ 62) ≤ j ∧ j < 2 ^ 62) : kR1 (.ok (.int j, s)) = .ok (rng 0 j.toNat, s) := by simp only [kR1, if_pos h]
@[simp] theorem kR1_nat {j : Nat} (h : (j : Int) < 2 ^ 62) : kR1 (.ok (.int (j : Int), s)) = .ok (rng 0 j, s) := by rw [kR1_ok ⟨by omega, h⟩]; rfl
@[simp] theorem iR1_eq {a : M} : iR1 a e s = kR1 (a e s) := by
  unfold iR1 kR1; rcases a e s with ⟨d, s⟩ | _ | _ <;> simp; cases d <;> simp
def kR3 (x : D) : R (D × Sto) → R (List D × Sto)
  | .ok (.int j, s) => match x with
    | .int i => if -(2 ^ 62) ≤ i ∧ i < 2 ^ 62 ∧ -(2 ^ 62) ≤ j ∧ j < 2 ^ 62 then .ok (rng i (j - i).toNat, s) else .bad
    | _ => .bad
  | .ok _ => .bad | .exc c => .exc c | .bad => .bad
def kR2 (b : M) (e : Env) : R (D × Sto) → R (List D × Sto)
  | .ok (x, s) => kR3 x (b e s) | .exc c => .exc c | .bad => .bad
@[simp] theorem kR2_ok {b : M} : kR2 b e (.ok (x, s)) = kR3 x (b e s) := (rfl : _ = _).trans rfl
theorem kR3_ok {i j : Int} (h : -(2 ^ 62) ≤ i ∧ i < 2 ^ 62 ∧ -(2 ^ 62) ≤ j ∧ j < 2 ^ 62) : kR3 (.int i) (.ok (.int j, s)) = .ok (rng i (j - i).toNat, s) := by simp only [kR3, if_pos h]
@[simp] theorem iR2_eq {a b : M} : iR2 a b e s = kR2 b e (a e s) := by
  unfold iR2; rcases a e s with ⟨x, s⟩ | _ | _ <;> simp only [R.bind_ok, R.bind_exc, R.bind_bad, kR2]
  rcases b e s with ⟨y, s⟩ | _ | _ <;> simp only [R.bind_ok, R.bind_exc, R.bind_bad, kR3]
  cases x <;> cases y <;> rfl
def kLc2 : R (List D × Sto) → R (D × Sto)
  | .ok (ys, s) => .ok (.lst ys, s) | .exc c => .exc c | .bad => .bad
def kLc (i : Nat) (t : T) (m : M) (e : Env) : R (List D × Sto) → R (D × Sto)
  | .ok (ds, s) => if ds.length ≤ 16777216 then kLc2 (lcF i t m e ds s) else .bad | .exc c => .exc c | .bad => .bad
@[simp] theorem kLc2_ok : kLc2 (.ok (ds, s)) = .ok (.lst ds, s) := (rfl : _ = _).trans rfl
@[simp] theorem kLc_ok {t : T} {m : M} : kLc i t m e (.ok (ds, s)) = if ds.length ≤ 16777216 then kLc2 (lcF i t m e ds s) else .bad := (rfl : _ = _).trans rfl
@[simp] theorem mLc_eq {a : A} {t : T} {m : M} : mLc i a t m e s = kLc i t m e (a e s) := by
  unfold mLc kLc; rcases a e s with ⟨d, s⟩ | _ | _ <;> simp only [R.bind_ok, R.bind_exc, R.bind_bad, line_eq]; split <;> try rfl
  cases lcF i t m e d s <;> rfl
/-! statements -/
@[simp] theorem sNil_eq : sNil e s = .ok (.nx e, s) := (rfl : _ = _).trans rfl
def kS (b : S) : R (O × Sto) → R (O × Sto)
  | .ok (.nx e, s) => b e s | .ok (.rt d, s) => .ok (.rt d, s) | .ok (.bk e, s) => .ok (.bk e, s) | .ok (.ct e, s) => .ok (.ct e, s) | .exc c => .exc c | .bad => .bad
@[simp] theorem kS_nx {b : S} : kS b (.ok (.nx e, s)) = b e s := (rfl : _ = _).trans rfl
@[simp] theorem kS_rt {b : S} : kS b (.ok (.rt d, s)) = .ok (.rt d, s) := (rfl : _ = _).trans rfl
@[simp] theorem kS_bk {b : S} : kS b (.ok (.bk e, s)) = .ok (.bk e, s) := (rfl : _ = _).trans rfl
@[simp] theorem kS_ct {b : S} : kS b (.ok (.ct e, s)) = .ok (.ct e, s) := (rfl : _ = _).trans rfl
@[simp] theorem kS_exc {b : S} {c} : kS b (.exc c) = .exc c := (rfl : _ = _).trans rfl
@[simp] theorem sCons_eq {a b : S} : sCons a b e s = kS b (a e s) := by
  unfold sCons kS; rcases a e s with ⟨o, s⟩ | _ | _ <;> simp; cases o <;> simp
def kSet (i : Nat) (e : Env) : R (D × Sto) → R (O × Sto)
  | .ok (d, s) => .ok (.nx (e.set i (some d)), s) | .exc c => .exc c | .bad => .bad
@[simp] theorem kSet_ok : kSet i e (.ok (d, s)) = .ok (.nx (e.set i (some d)), s) := (rfl : _ = _).trans rfl
@[simp] theorem sSet_eq {m : M} : sSet i m e s = kSet i e (m e s) := by
  unfold sSet kSet; rcases m e s with ⟨o, s⟩ | _ | _ <;> simp
def kOwnL (i : Nat) (e : Env) : R (List D × Sto) → R (O × Sto)
  | .ok (ds, s) => if ds.length ≤ 100 ∧ freeL ds = true then .ok (.nx (e.set i (some (.own s.length))), s ++ [.L ds]) else .bad | .exc c => .exc c | .bad => .bad
@[simp] theorem kOwnL_ok : kOwnL i e (.ok (ds, s)) = if ds.length ≤ 100 ∧ freeL ds = true then .ok (.nx (e.set i (some (.own s.length))), s ++ [.L ds]) else .bad := (rfl : _ = _).trans rfl
@[simp] theorem sOwnL_eq {a : A} : sOwnL i a e s = kOwnL i e (a e s) := by
  unfold sOwnL kOwnL; rcases a e s with ⟨o, s⟩ | _ | _ <;> simp
@[simp] theorem mOwnDI_eq : mOwnDI e s = .ok (.own s.length, s ++ [.DI []]) := (rfl : _ = _).trans rfl
@[simp] theorem mOwnDT_eq : mOwnDT e s = .ok (.own s.length, s ++ [.DT []]) := (rfl : _ = _).trans rfl
def kEx (e : Env) : R (D × Sto) → R (O × Sto)
  | .ok (d, s) => .ok (.nx e, s) | .exc c => .exc c | .bad => .bad
@[simp] theorem kEx_ok : kEx e (.ok (d, s)) = .ok (.nx e, s) := (rfl : _ = _).trans rfl
@[simp] theorem sEx_eq {m : M} : sEx m e s = kEx e (m e s) := by
  unfold sEx kEx; rcases m e s with ⟨o, s⟩ | _ | _ <;> simp
def kRet : R (D × Sto) → R (O × Sto)
  | .ok (d, s) => .ok (.rt d, s) | .exc c => .exc c | .bad => .bad
@[simp] theorem kRet_ok : kRet (.ok (d, s)) = .ok (.rt d, s) := (rfl : _ = _).trans rfl
@[simp] theorem sRet_eq {m : M} : sRet m e s = kRet (m e s) := by
  unfold sRet kRet; rcases m e s with ⟨o, s⟩ | _ | _ <;> simp
@[simp] theorem sCt_eq : sCt e s = .ok (.ct e, s) := (rfl : _ = _).trans rfl
@[simp] theorem sBk_eq : sBk e s = .ok (.bk e, s) := (rfl : _ = _).trans rfl
@[simp] theorem sPs_eq : sPs e s = .ok (.nx e, s) := (rfl : _ = _).trans rfl
@[simp] theorem sRaise_eq {c} : sRaise c e s = .exc c := (rfl : _ = _).trans rfl
def kFor (i : Nat) (b : S) (e : Env) : R (List D × Sto) → R (O × Sto)
  | .ok (ds, s) => forF i b ds e s | .exc c => .exc c | .bad => .bad
@[simp] theorem kFor_ok {b : S} : kFor i b e (.ok (ds, s)) = forF i b ds e s := (rfl : _ = _).trans rfl
@[simp] theorem sFor_eq {a : A} {b : S} : sFor i a b e s = kFor i b e (a e s) := by
  unfold sFor kFor; rcases a e s with ⟨o, s⟩ | _ | _ <;> simp
/-! owned objects -/
def kApp2 (k : Nat) : R (D × Sto) → R (D × Sto)
  | .ok (d, s) => match s[k]? with
    | some (.L ds) => if ds.length < 16777216 ∧ free d = true then .ok (.non, s.set k (.L (ds ++ [d]))) else .bad
    | _ => .bad
  | .exc c => .exc c | .bad => .bad
def kApp (a : M) (e : Env) : R (D × Sto) → R (D × Sto)
  | .ok (.own k, s) => match s[k]? with
    | some (.L _) => kApp2 k (a e s)
    | _ => .bad
  | .ok _ => .bad | .exc c => .exc c | .bad => .bad
theorem kApp_ok {a : M} {k : Nat} (h : s[k]? = some (.L ds)) : kApp a e (.ok (.own k, s)) = kApp2 k (a e s) := by simp only [kApp, h]
theorem kApp2_ok {k : Nat} (h : s[k]? = some (.L ds)) (h2 : ds.length < 16777216) (h3 : free d = true) : kApp2 k (.ok (d, s)) = .ok (.non, s.set k (.L (ds ++ [d]))) := by simp only [kApp2, h, h2, h3, and_self, if_true]
@[simp] theorem mApp_eq {o a : M} : mApp o a e s = kApp a e (o e s) := by
  unfold mApp kApp; rcases o e s with ⟨x, s⟩ | _ | _ <;> simp only [R.bind_ok, R.bind_exc, R.bind_bad]
  cases x <;> simp only
  rename_i k
  cases s[k]? with
  | none => rfl
  | some o =>
    cases o <;> simp only
    rcases a e s with ⟨y, s⟩ | _ | _ <;> simp only [R.bind_ok, R.bind_exc, R.bind_bad, kApp2, line_eq]
    all_goals (cases s[k]? with
    | none => rfl
    | some o => cases o <;> rfl)
def kFz (s : Sto) : R (D × Sto) → R (D × Sto)
  | .ok (d, _) => if noL d = true then .ok (d, s) else .bad
  | .exc c => .exc c | .bad => .bad
@[simp] theorem kFz_ok : kFz s (.ok (d, s')) = if noL d = true then .ok (d, s) else .bad := (rfl : _ = _).trans rfl
@[simp] theorem mFz_eq {m : M} : mFz m e s = kFz s (m (e.map fun o => o.bind (fzD s)) []) := by
  unfold mFz; generalize m (e.map fun o => o.bind (fzD s)) [] = r; rcases r with ⟨x, s2⟩ | _ | _ <;> rfl
def kPop2 (s : Sto) (k : Nat) : Option Ob → R (D × Sto)
  | some (.L ds) => match ds[ds.length - 1]? with
    | some d => .ok (d, s.set k (.L ds.dropLast))
    | none => .bad
  | _ => .bad
def kPop : R (D × Sto) → R (D × Sto)
  | .ok (.own k, s) => kPop2 s k s[k]?
  | .ok _ => .bad | .exc c => .exc c | .bad => .bad
@[simp] theorem kPop_ok {k : Nat} : kPop (.ok (.own k, s)) = kPop2 s k s[k]? := (rfl : _ = _).trans rfl
theorem kPop2_ok {k : Nat} : kPop2 s k (some (.L (ds ++ [d]))) = .ok (d, s.set k (.L ds)) := by
  simp only [kPop2, List.length_append, List.length_cons, List.length_nil, Nat.zero_add, Nat.add_sub_cancel, List.getElem?_concat_length, List.dropLast_concat]
@[simp] theorem mPop_eq {o : M} : mPop o e s = kPop (o e s) := by
  unfold mPop kPop; rcases o e s with ⟨x, s⟩ | _ | _ <;> simp only [R.bind_ok, R.bind_exc, R.bind_bad]
  cases x <;> simp only [kPop2] <;> rfl
def kUpd2 (f : List D → List D) (s : Sto) (k : Nat) : Option Ob → R (D × Sto)
  | some (.L ds) => .ok (.non, s.set k (.L (f ds)))
  | _ => .bad
def kUpd (f : List D → List D) : R (D × Sto) → R (D × Sto)
  | .ok (.own k, s) => kUpd2 f s k s[k]?
  | .ok _ => .bad | .exc c => .exc c | .bad => .bad
@[simp] theorem kUpd_ok {f : List D → List D} {k : Nat} : kUpd f (.ok (.own k, s)) = kUpd2 f s k s[k]? := (rfl : _ = _).trans rfl
@[simp] theorem kUpd2_ok {f : List D → List D} {k : Nat} : kUpd2 f s k (some (.L ds)) = .ok (.non, s.set k (.L (f ds))) := (rfl : _ = _).trans rfl
@[simp] theorem mUpd_eq {f : List D → List D} {o : M} : mUpd f o e s = kUpd f (o e s) := by
  unfold mUpd kUpd; rcases o e s with ⟨x, s⟩ | _ | _ <;> simp only [R.bind_ok, R.bind_exc, R.bind_bad]
  cases x <;> simp only [kUpd2] <;> rfl
def kPut4 (s : Sto) (e : Env) : Option Sto → R (O × Sto)
  | some s' => .ok (.nx e, s') | none => .bad
@[simp] theorem kPut4_some : kPut4 s e (some s') = .ok (.nx e, s') := (rfl : _ = _).trans rfl
def kPut3 (e : Env) (v o : D) : R (D × Sto) → R (O × Sto)
  | .ok (i, s) => match o with
    | .own k => kPut4 s e (putS s k i v)
    | _ => .bad
  | .exc c => .exc c | .bad => .bad
@[simp] theorem kPut3_ok {v : D} {k : Nat} : kPut3 e v (.own k) (.ok (x, s)) = kPut4 s e (putS s k x v) := (rfl : _ = _).trans rfl
def kPut2 (i : M) (e : Env) (v : D) : R (D × Sto) → R (O × Sto)
  | .ok (o, s) => kPut3 e v o (i e s) | .exc c => .exc c | .bad => .bad
@[simp] theorem kPut2_ok {i : M} {v : D} : kPut2 i e v (.ok (x, s)) = kPut3 e v x (i e s) := (rfl : _ = _).trans rfl
def kPut1 (o i : M) (e : Env) : R (D × Sto) → R (O × Sto)
  | .ok (v, s) => kPut2 i e v (o e s) | .exc c => .exc c | .bad => .bad
@[simp] theorem kPut1_ok {o i : M} : kPut1 o i e (.ok (x, s)) = kPut2 i e x (o e s) := (rfl : _ = _).trans rfl
@[simp] theorem sPut_eq {o i v : M} : sPut o i v e s = kPut1 o i e (v e s) := by
  unfold sPut; rcases v e s with ⟨x, s⟩ | _ | _ <;> simp only [R.bind_ok, R.bind_exc, R.bind_bad, kPut1]
  rcases o e s with ⟨y, s⟩ | _ | _ <;> simp only [R.bind_ok, R.bind_exc, R.bind_bad, kPut2]
  rcases i e s with ⟨z, s⟩ | _ | _ <;> simp only [R.bind_ok, R.bind_exc, R.bind_bad, kPut3]
  cases y <;> simp only
  rename_i k
  cases putS s k z x <;> rfl
end
/-! a def -/
def kRun2 : Option D → R D
  | some d => .ok d | none => .bad
def kRun : R (O × Sto) → R D
  | .ok (.rt d, s) => kRun2 (frz 0 s d) | .ok (.nx _, _) => .ok .non | .ok _ => .bad | .exc c => .exc c | .bad => .bad
@[simp] theorem kRun2_some {d : D} : kRun2 (some d) = .ok d := (rfl : _ = _).trans rfl
@[simp] theorem kRun_rt {d : D} {s : Sto} : kRun (.ok (.rt d, s)) = kRun2 (frz 0 s d) := (rfl : _ = _).trans rfl
@[simp] theorem kRun_nx {e : Env} {s : Sto} : kRun (.ok (.nx e, s)) = .ok .non := (rfl : _ = _).trans rfl
@[simp] theorem kRun_exc {c} : kRun (.exc c) = .exc c := (rfl : _ = _).trans rfl
theorem run_eq (n : Nat) (b : S) (ds : List D) : run n b ds = kRun (b (ent n ds) []) := by
  unfold run runG fin kRun; rcases b (ent n ds) [] with ⟨o, s⟩ | _ | _ <;> simp
  cases o <;> simp
  rename_i d
  cases frz 0 s d <;> rfl
def kRunG2 (s : Sto) : Option D → R (D × Sto)
  | some d => .ok (d, s) | none => .bad
def kRunG (n : Nat) : R (O × Sto) → R (D × Sto)
  | .ok (.rt d, s) => kRunG2 (s.take n) (frz n s d) | .ok (.nx _, s) => .ok (.non, s.take n) | .ok _ => .bad | .exc c => .exc c | .bad => .bad
@[simp] theorem kRunG2_some {d : D} {s : Sto} : kRunG2 s (some d) = .ok (d, s) := (rfl : _ = _).trans rfl
@[simp] theorem kRunG_rt {n : Nat} {d : D} {s : Sto} : kRunG n (.ok (.rt d, s)) = kRunG2 (s.take n) (frz n s d) := (rfl : _ = _).trans rfl
@[simp] theorem kRunG_nx {n : Nat} {e : Env} {s : Sto} : kRunG n (.ok (.nx e, s)) = .ok (.non, s.take n) := (rfl : _ = _).trans rfl
theorem runG_eq (n : Nat) (b : S) (ds : List D) (s : Sto) : runG n b ds s = kRunG s.length (b (ent n ds) s) := by
  unfold runG fin kRunG; rcases b (ent n ds) s with ⟨o, s2⟩ | _ | _ <;> simp
  cases o <;> simp
  rename_i d
  cases frz s.length s2 d <;> rfl
@[simp] theorem ent_1 (n : Nat) (a : D) (ds : List D) : ent n (a :: ds) = some a :: ent (n - 1) ds := by
  unfold ent; rw [List.map_cons, List.cons_append, List.length_cons, Nat.sub_sub, Nat.add_comm 1]
@[simp] theorem ent_0 (n : Nat) : ent n [] = List.replicate n none := by simp [ent]
end Mini
end
section
/-! Mini2: fresh lists that are ours alone, and defs that hand back what they own -/
namespace Mini
/-- a comprehension that is ours alone -/
def mLcO (i : Nat) (it : A) (t : T) (m : M) : M := fun e s => (it e s).bind fun p => if p.1.length ≤ line then (lcF i t m e p.1 p.2).bind fun q => .ok (.own q.2.length, q.2 ++ [.L q.1]) else .bad
@[simp] def catD : D → D → Option (List D)
  | .lst xs, .lst ys => if xs.length + ys.length ≤ line then some (xs ++ ys) else none
  | _, _ => none
/-- a + b, lists; ours alone -/
def mOwnCat (a b : M) : M := fun e s => (a e s).bind fun p => (b e p.2).bind fun q => (R.of (catD (rz q.2 p.1) (rz q.2 q.1))).bind fun ds => .ok (.own q.2.length, q.2 ++ [.L ds])
/-- a def whose own objects go over to its caller -/
def runK (names : Nat) (b : S) : F := fun ds s => fin (b (ent names ds) s)
section
variable {e : Env} {s s' : Sto} {d x y : D} {ds : List D} {i : Nat}
def kLcO2 : R (List D × Sto) → R (D × Sto)
  | .ok (ys, s) => .ok (.own s.length, s ++ [.L ys]) | .exc c => .exc c | .bad => .bad
def kLcO (i : Nat) (t : T) (m : M) (e : Env) : R (List D × Sto) → R (D × Sto)
  | .ok (ds, s) => if ds.length ≤ 16777216 then kLcO2 (lcF i t m e ds s) else .bad | .exc c => .exc c | .bad => .bad
@[simp] theorem kLcO2_ok : kLcO2 (.ok (ds, s)) = .ok (.own s.length, s ++ [.L ds]) := (rfl : _ = _).trans rfl
@[simp] theorem kLcO_ok {t : T} {m : M} : kLcO i t m e (.ok (ds, s)) = if ds.length ≤ 16777216 then kLcO2 (lcF i t m e ds s) else .bad := (rfl : _ = _).trans rfl
@[simp] theorem mLcO_eq {a : A} {t : T} {m : M} : mLcO i a t m e s = kLcO i t m e (a e s) := by
  unfold mLcO kLcO; rcases a e s with ⟨d, s⟩ | _ | _ <;> simp only [R.bind_ok, R.bind_exc, R.bind_bad, line_eq]; split <;> try rfl
  cases lcF i t m e d s <;> rfl
def kCat3 (s : Sto) : Option (List D) → R (D × Sto)
  | some ds => .ok (.own s.length, s ++ [.L ds]) | none => .bad
@[simp] theorem kCat3_some : kCat3 s (some ds) = .ok (.own s.length, s ++ [.L ds]) := (rfl : _ = _).trans rfl
def kCat2 (x : D) : R (D × Sto) → R (D × Sto)
  | .ok (y, s) => kCat3 s (catD (rz s x) (rz s y)) | .exc c => .exc c | .bad => .bad
def kCat1 (b : M) (e : Env) : R (D × Sto) → R (D × Sto)
  | .ok (x, s) => kCat2 x (b e s) | .exc c => .exc c | .bad => .bad
@[simp] theorem kCat2_ok : kCat2 x (.ok (y, s)) = kCat3 s (catD (rz s x) (rz s y)) := (rfl : _ = _).trans rfl
@[simp] theorem kCat1_ok {b : M} : kCat1 b e (.ok (x, s)) = kCat2 x (b e s) := (rfl : _ = _).trans rfl
theorem of_kCat3 (o : Option (List D)) : ((R.of o).bind fun ds => R.ok (D.own s.length, s ++ [.L ds])) = kCat3 s o := by cases o <;> rfl
@[simp] theorem mOwnCat_eq {a b : M} : mOwnCat a b e s = kCat1 b e (a e s) := by
  unfold mOwnCat; rcases a e s with ⟨x, s⟩ | _ | _ <;> simp only [R.bind_ok, R.bind_exc, R.bind_bad, kCat1]
  rcases b e s with ⟨y, s⟩ | _ | _ <;> simp only [R.bind_ok, R.bind_exc, R.bind_bad, kCat2, of_kCat3]
def kRunK : R (O × Sto) → R (D × Sto)
  | .ok (.rt d, s) => .ok (d, s) | .ok (.nx _, s) => .ok (.non, s) | .ok _ => .bad | .exc c => .exc c | .bad => .bad
@[simp] theorem kRunK_rt : kRunK (.ok (.rt d, s)) = .ok (d, s) := (rfl : _ = _).trans rfl
@[simp] theorem kRunK_nx : kRunK (.ok (.nx e, s)) = .ok (.non, s) := (rfl : _ = _).trans rfl
theorem runK_eq (n : Nat) (b : S) (ds : List D) (s : Sto) : runK n b ds s = kRunK (b (ent n ds) s) := by
  unfold runK fin kRunK; rcases b (ent n ds) s with ⟨o, s2⟩ | _ | _ <;> simp
  cases o <;> simp
end
end Mini
end
section
namespace Mini
/-- the text that an exception's handler hands back -/
def tblAt : List (Nat × List Nat) → Nat → Option (List Nat)
  | [], _ => none
  | (j, z) :: r, c => if c = j then some z else tblAt r c
/-- try: b, and a handler for each of some classes that hands back a text -/
def sTryR (b : S) (l : List (Nat × List Nat)) : S := fun e s => match b e s with
  | .exc c => match s with
    | [] => if c < 5 then (match tblAt l c with | some z => .ok (.rt (.str z), []) | none => .bad) else .bad
    | _ :: _ => .bad
  | r => r
/-- try: b, and a handler that hands back True for each of the five classes -/
def sTry1 (b : S) : S := fun e s => match b e s with
  | .exc c => match s with
    | [] => if c < 5 then .ok (.rt (.bl true), []) else .bad
    | _ :: _ => .bad
  | r => r
end Mini
end
section
/-! Lm: lemmas about the pure evaluator's loops -/
namespace Mini
theorem lcF_map {i : Nat} {m : M} {e : Env} {s : Sto} (f : D → D) : ∀ ds : List D, (∀ d ∈ ds, m (e.set i (some d)) s = .ok (f d, s) ∧ chk s [f d] = true) → lcF i tYes m e ds s = .ok (ds.map f, s)
  | [], _ => rfl
  | d :: ds, h => by
    obtain ⟨h1, h2⟩ := h d List.mem_cons_self
    have ih := lcF_map f ds fun d hd => h d (List.mem_cons_of_mem _ hd)
    have h2' : chk s [f d] = true := h2
    simp only [lcF, tYes, R.nox_ok, R.bind_ok, if_true, h1, h2', ih, List.map_cons]
/-- the same over indices -/
theorem lcF_idx {i : Nat} {m : M} {e : Env} {s : Sto} {α : Type} (g : α → D) (f : α → D) : ∀ xs : List α, (∀ x ∈ xs, m (e.set i (some (g x))) s = .ok (f x, s) ∧ chk s [f x] = true) → lcF i tYes m e (xs.map g) s = .ok (xs.map f, s)
  | [], _ => rfl
  | x :: xs, h => by
    obtain ⟨h1, h2⟩ := h x List.mem_cons_self
    have ih := lcF_idx g f xs fun d hd => h d (List.mem_cons_of_mem _ hd)
    have h2' : chk s [f x] = true := h2
    simp only [List.map_cons, lcF, tYes, R.nox_ok, R.bind_ok, if_true, h1, h2', ih]
/-- a loop by its invariant -/
theorem forF_inv {i : Nat} {b : S} (I : Nat → Env → Sto → Prop) : ∀ (ds : List D) (j : Nat) (e : Env) (s : Sto), I j e s →
    (∀ k e s d, I (j + k) e s → ds[k]? = some d → ∃ e' s', (b (e.set i (some d)) s = .ok (.nx e', s') ∨ b (e.set i (some d)) s = .ok (.ct e', s')) ∧ I (j + k + 1) e' s') →
    ∃ e' s', forF i b ds e s = .ok (.nx e', s') ∧ I (j + ds.length) e' s'
  | [], j, e, s, h, _ => ⟨e, s, rfl, h⟩
  | d :: ds, j, e, s, h, st => by
    obtain ⟨e', s', hb, h'⟩ := st 0 e s d h rfl
    obtain ⟨e2, s2, h2, h3⟩ := forF_inv I ds (j + 1) e' s' h' fun k e s d hi hd => by
      have e1 : j + 1 + k = j + (k + 1) := by omega
      rw [e1] at hi ⊢
      exact st (k + 1) e s d hi (by simpa using hd)
    refine ⟨e2, s2, ?_, by rw [List.length_cons, show j + (ds.length + 1) = j + 1 + ds.length by omega]; exact h3⟩
    rcases hb with hb | hb <;> simp only [forF, hb, R.bind_ok, h2]
theorem rng_len (lo : Int) (n : Nat) : (rng lo n).length = n := by simp [rng]
theorem rng_at {lo : Int} {n k : Nat} {d : D} (h : (rng lo n)[k]? = some d) : k < n ∧ d = .int (lo + (k : Int)) := by
  unfold rng at h
  rw [List.getElem?_map] at h
  obtain ⟨j, hj, rfl⟩ := Option.map_eq_some_iff.mp h
  obtain ⟨h1, h2⟩ := List.getElem?_eq_some_iff.mp hj
  simp at h1 h2
  subst h2
  exact ⟨h1, rfl⟩
theorem pos_nat {n k : Nat} (h : k < n) : pos n (k : Int) = some k := by simp [pos, h]
theorem opIx_str_nat (s : Sto) (z : List Nat) (k : Nat) (h1 : k < z.length) (hl : z.length ≤ 16777216) : opIx s (.str z) (.int (k : Int)) = some (.str [at0 z k]) := by
  rw [opIx_str s z k (by omega) (by omega) hl]
  simp
theorem strs_map {α : Type} (f : α → List Nat) : ∀ xs : List α, zstrs (xs.map fun x => .str (f x)) = some (xs.map f)
  | [] => rfl
  | x :: xs => by simp only [List.map_cons, zstrs, strs_map f xs]; rfl
theorem ints_map {α : Type} (f : α → Int) : ∀ xs : List α, zints (xs.map fun x => .int (f x)) = some (xs.map f)
  | [] => rfl
  | x :: xs => by simp only [List.map_cons, zints, ints_map f xs]; rfl
theorem bls_map {α : Type} (f : α → Bool) : ∀ xs : List α, bls (xs.map fun x => .bl (f x)) = some (xs.map f)
  | [] => rfl
  | x :: xs => by simp only [List.map_cons, bls, bls_map f xs]; rfl
theorem glue_nil : ∀ xs : List (List Nat), glue [] xs = xs.flatten
  | [] => rfl
  | [x] => by simp [glue]
  | x :: y :: r => by
    have := glue_nil (y :: r)
    simp only [glue, this]
    simp
theorem glue_one {α : Type} (f : α → Nat) (xs : List α) : glue [] (xs.map fun x => [f x]) = xs.map f := by
  rw [glue_nil]
  induction xs with
  | nil => rfl
  | cons x xs ih => simp [ih]
theorem sum_one {α : Type} (f : α → List Nat) (xs : List α) (h : ∀ x ∈ xs, (f x).length = 1) : ((xs.map f).map (·.length)).sum = xs.length := by
  induction xs with
  | nil => rfl
  | cons x xs ih =>
    simp only [List.map_cons, List.sum_cons, List.length_cons]
    rw [h x List.mem_cons_self, ih fun y hy => h y (List.mem_cons_of_mem _ hy)]
    omega
/-- join of one-sign texts -/
theorem join_signs {α : Type} (f : α → Nat) (xs : List α) (h : xs.length ≤ 16777216) : joinD [] (.lst (xs.map fun x => .str [f x])) = some (.str (xs.map f)) := by
  simp only [joinD, strs_map fun x => [f x], Option.bind_some]
  rw [if_pos, glue_one]
  rw [sum_one _ _ fun _ _ => rfl]
  simp
  exact h
end Mini
end
section
/-! Sound: Mini's combinators against the hand layer. -/
namespace Snd
open PySem L2

/-- the heap without what is protected or owned -/
def imm (H : Hp) (P α : List Addr) : Hp := fun b => if b ∈ P ∨ b ∈ α then none else H b
theorem imm_some {H : Hp} {P α : List Addr} {b : Addr} {o : HO} : imm H P α b = some o ↔ b ∉ P ∧ b ∉ α ∧ H b = some o := by
  unfold imm
  split
  · rename_i h
    constructor
    · intro q; cases q
    · rintro ⟨h1, h2, _⟩
      exact (h.elim h1 h2).elim
  · rename_i h
    constructor
    · intro q
      exact ⟨fun z => h (.inl z), fun z => h (.inr z), q⟩
    · exact fun q => q.2.2
def Ext (G G' : Hp) : Prop := ∀ b o, G b = some o → G' b = some o
theorem Ext.refl (G : Hp) : Ext G G := fun _ _ h => h
theorem Ext.trans {G G' G2 : Hp} (a : Ext G G') (b : Ext G' G2) : Ext G G2 := fun c o h => b c o (a c o h)
theorem imm_sub (H : Hp) (P α : List Addr) : Ext (imm H P α) H := fun b o h => (imm_some.mp h).2.2
theorem Ext.sqL {K : PySem.W.Frag} {G G' : Hp} {a : Addr} {xs : List V} (e : Ext G G') (h : SqL K G a xs) : SqL K G' a xs := by
  rcases h with (h | ⟨o, h⟩) | h
  · exact .inl (.inl (e _ _ h))
  · exact .inl (.inr ⟨o, e _ _ h⟩)
  · exact .inr h

mutual
/-- d stands at v -/
def Dr (K : PySem.W.Frag) (G : Hp) : List Addr → Mini.D → V → Prop
  | _, .non, v => v = .non
  | _, .bl b, v => v = .bl b
  | _, .int i, v => v = .int i
  | _, .str s, v => v = .str ⟨s.toArray⟩
  | α, .tup ds, v => ∃ a xs, v = .ref a ∧ G a = some (.tup xs) ∧ DrL K G α ds xs
  | _, .lst ds, v => ∃ a xs, v = .ref a ∧ G a = some (.lst xs) ∧ DrL K G [] ds xs
  | _, .scr ns, v => ∃ a, v = .ref a ∧ SqL K G a (ns.map V.int)
  | α, .own k, v => ∃ a, α[k]? = some a ∧ v = .ref a
  | _, .dic n, v => ∃ a kvs, v = .ref a ∧ G a = some (.dT kvs) ∧ kvs.length = n
def DrL (K : PySem.W.Frag) (G : Hp) : List Addr → List Mini.D → List V → Prop
  | _, [], [] => True
  | α, d :: ds, v :: vs => Dr K G α d v ∧ DrL K G α ds vs
  | _, _, _ => False
end
section
variable {K : PySem.W.Frag} {G G' : Hp}
theorem drL_iff {α : List Addr} : ∀ {ds : List Mini.D} {xs : List V}, DrL K G α ds xs ↔ ds.length = xs.length ∧ ∀ (i : Nat) d x, ds[i]? = some d → xs[i]? = some x → Dr K G α d x
  | [], [] => by simp [DrL]
  | [], x :: xs => by simp [DrL]
  | d :: ds, [] => by simp [DrL]
  | d :: ds, x :: xs => by
    rw [DrL, drL_iff (ds := ds) (xs := xs)]
    constructor
    · rintro ⟨h1, h2, h3⟩
      refine ⟨by simp [h2], fun i e y he hy => ?_⟩
      cases i with
      | zero => simp at he hy; subst he; subst hy; exact h1
      | succ i => exact h3 i e y (by simpa using he) (by simpa using hy)
    · rintro ⟨h1, h2⟩
      exact ⟨h2 0 d x rfl rfl, by simpa using h1, fun i e y he hy => h2 (i + 1) e y (by simpa using he) (by simpa using hy)⟩
theorem DrL.len {α : List Addr} {ds : List Mini.D} {xs : List V} (h : DrL K G α ds xs) : ds.length = xs.length := (drL_iff.mp h).1
theorem DrL.at {α : List Addr} {ds : List Mini.D} {xs : List V} (h : DrL K G α ds xs) {i : Nat} {d : Mini.D} (e : ds[i]? = some d) : ∃ x, xs[i]? = some x ∧ Dr K G α d x := by
  have hl := h.len
  have hi : i < xs.length := by rw [← hl]; exact (List.getElem?_eq_some_iff.mp e).1
  exact ⟨xs[i], List.getElem?_eq_getElem hi, (drL_iff.mp h).2 i d _ e (List.getElem?_eq_getElem hi)⟩
mutual
theorem Dr.mono {α α' : List Addr} (e : Ext G G') (p : ∀ (k : Nat) a, α[k]? = some a → α'[k]? = some a) : ∀ {d : Mini.D} {v : V}, Dr K G α d v → Dr K G' α' d v
  | .non, v, h => by simpa [Dr] using h
  | .bl b, v, h => by simpa [Dr] using h
  | .int i, v, h => by simpa [Dr] using h
  | .str s, v, h => by simpa [Dr] using h
  | .tup ds, v, h => by
    rw [Dr] at h ⊢
    obtain ⟨a, xs, h1, h2, h3⟩ := h
    exact ⟨a, xs, h1, e _ _ h2, DrL.mono e p h3⟩
  | .lst ds, v, h => by
    rw [Dr] at h ⊢
    obtain ⟨a, xs, h1, h2, h3⟩ := h
    exact ⟨a, xs, h1, e _ _ h2, DrL.mono e (fun _ _ q => q) h3⟩
  | .scr ns, v, h => by
    rw [Dr] at h ⊢
    obtain ⟨a, h1, h2⟩ := h
    exact ⟨a, h1, e.sqL h2⟩
  | .own k, v, h => by
    rw [Dr] at h ⊢
    obtain ⟨a, h1, h2⟩ := h
    exact ⟨a, p k a h1, h2⟩
  | .dic n, v, h => by
    rw [Dr] at h ⊢
    obtain ⟨a, kvs, h1, h2, h3⟩ := h
    exact ⟨a, kvs, h1, e _ _ h2, h3⟩
theorem DrL.mono {α α' : List Addr} (e : Ext G G') (p : ∀ (k : Nat) a, α[k]? = some a → α'[k]? = some a) : ∀ {ds : List Mini.D} {vs : List V}, DrL K G α ds vs → DrL K G' α' ds vs
  | [], [], h => by simp [DrL]
  | [], _ :: _, h => by simp [DrL] at h
  | _ :: _, [], h => by simp [DrL] at h
  | d :: ds, v :: vs, h => by
    rw [DrL] at h ⊢
    exact ⟨Dr.mono e p h.1, DrL.mono e p h.2⟩
end
mutual
theorem Dr.free {α α' : List Addr} : ∀ {d : Mini.D} {v : V}, Mini.free d = true → Dr K G α d v → Dr K G α' d v
  | .non, v, _, h => by simpa [Dr] using h
  | .bl b, v, _, h => by simpa [Dr] using h
  | .int i, v, _, h => by simpa [Dr] using h
  | .str s, v, _, h => by simpa [Dr] using h
  | .tup ds, v, f, h => by
    rw [Dr] at h ⊢
    obtain ⟨a, xs, h1, h2, h3⟩ := h
    exact ⟨a, xs, h1, h2, DrL.free (by simpa [Mini.free] using f) h3⟩
  | .lst ds, v, _, h => by rw [Dr] at h ⊢; exact h
  | .scr ns, v, _, h => by rw [Dr] at h ⊢; exact h
  | .own k, v, f, h => by simp [Mini.free] at f
  | .dic n, v, _, h => by rw [Dr] at h ⊢; exact h
theorem DrL.free {α α' : List Addr} : ∀ {ds : List Mini.D} {vs : List V}, Mini.freeL ds = true → DrL K G α ds vs → DrL K G α' ds vs
  | [], [], _, h => by simp [DrL]
  | [], _ :: _, _, h => by simp [DrL] at h
  | _ :: _, [], _, h => by simp [DrL] at h
  | d :: ds, v :: vs, f, h => by
    rw [DrL] at h ⊢
    have f' : Mini.free d = true ∧ Mini.freeL ds = true := by simpa [Mini.freeL] using f
    exact ⟨Dr.free f'.1 h.1, DrL.free f'.2 h.2⟩
end
theorem DrL.nil_any {α : List Addr} {ds : List Mini.D} {vs : List V} (h : DrL K G [] ds vs) : DrL K G α ds vs := DrL.mono (Ext.refl G) (fun k a q => by simp at q) h
theorem Dr.nil_any {α : List Addr} {ds : Mini.D} {vs : V} (h : Dr K G [] ds vs) : Dr K G α ds vs := Dr.mono (Ext.refl G) (fun k a q => by simp at q) h
theorem DrL.append {α : List Addr} {ds es : List Mini.D} {vs us : List V} (h : DrL K G α ds vs) (h' : DrL K G α es us) : DrL K G α (ds ++ es) (vs ++ us) := by
  rw [drL_iff] at h h' ⊢
  refine ⟨by simp [h.1, h'.1], fun i d x hd hx => ?_⟩
  by_cases hi : i < ds.length
  · rw [List.getElem?_append_left hi] at hd
    rw [List.getElem?_append_left (by omega)] at hx
    exact h.2 i d x hd hx
  · rw [List.getElem?_append_right (by omega)] at hd hx
    rw [← h.1] at hx
    exact h'.2 _ d x hd hx
theorem DrL.take {α : List Addr} {ds : List Mini.D} {vs : List V} (h : DrL K G α ds vs) (n : Nat) : DrL K G α (ds.take n) (vs.take n) := by
  rw [drL_iff] at h ⊢
  refine ⟨by simp [h.1], fun i d x hd hx => ?_⟩
  rw [List.getElem?_take] at hd hx
  split at hd <;> simp_all
  exact h.2 i d x hd hx
theorem DrL.drop {α : List Addr} {ds : List Mini.D} {vs : List V} (h : DrL K G α ds vs) (n : Nat) : DrL K G α (ds.drop n) (vs.drop n) := by
  rw [drL_iff] at h ⊢
  refine ⟨by simp [h.1], fun i d x hd hx => ?_⟩
  rw [List.getElem?_drop] at hd hx
  exact h.2 _ d x hd hx
theorem DrL.set {α : List Addr} {ds : List Mini.D} {vs : List V} (h : DrL K G α ds vs) (n : Nat) {d : Mini.D} {v : V} (hd : Dr K G α d v) : DrL K G α (ds.set n d) (vs.set n v) := by
  rw [drL_iff] at h ⊢
  refine ⟨by simp [h.1], fun i e x he hx => ?_⟩
  rw [List.getElem?_set] at he hx
  split at he
  · rename_i q
    subst q
    rw [if_pos rfl] at hx
    split at he
    · split at hx
      · cases he; cases hx; exact hd
      · cases hx
    · cases he
  · rename_i q
    rw [if_neg q] at hx
    exact h.2 i e x he hx
theorem DrL.reverse {α : List Addr} {ds : List Mini.D} {vs : List V} (h : DrL K G α ds vs) : DrL K G α ds.reverse vs.reverse := by
  rw [drL_iff] at h ⊢
  refine ⟨by simp [h.1], fun i d x hd hx => ?_⟩
  have hi : i < ds.length := by
    have := (List.getElem?_eq_some_iff.mp hd).1
    simpa using this
  rw [List.getElem?_reverse hi] at hd
  rw [List.getElem?_reverse (by omega)] at hx
  rw [← h.1] at hx
  exact h.2 _ d x hd hx
theorem DrL.dropLast {α : List Addr} {ds : List Mini.D} {vs : List V} (h : DrL K G α ds vs) : DrL K G α ds.dropLast vs.dropLast := by
  rw [List.dropLast_eq_take, List.dropLast_eq_take, h.len]
  exact h.take _
theorem DrL.rep {α : List Addr} {ds : List Mini.D} {vs : List V} (h : DrL K G α ds vs) : ∀ n : Nat, DrL K G α (List.replicate n ds).flatten (List.replicate n vs).flatten
  | 0 => by simp [DrL]
  | n + 1 => by
    simp only [List.replicate_succ, List.flatten_cons]
    exact h.append (DrL.rep h n)
theorem DrL.ofInts {α : List Addr} : ∀ (ns : List Int), DrL K G α (ns.map .int) (ns.map V.int)
  | [] => by simp [DrL]
  | n :: ns => by
    simp only [List.map_cons, DrL]
    exact ⟨by simp [Dr], DrL.ofInts ns⟩
theorem DrL.zints {α : List Addr} : ∀ {ds : List Mini.D} {vs : List V} {ns : List Int}, DrL K G α ds vs → Mini.zints ds = some ns → vs = ns.map V.int
  | [], [], ns, _, h => by simp [Mini.zints] at h; subst h; rfl
  | [], _ :: _, _, h, _ => by simp [DrL] at h
  | _ :: _, [], _, h, _ => by simp [DrL] at h
  | d :: ds, v :: vs, ns, h, e => by
    rw [DrL] at h
    cases d <;> simp [Mini.zints] at e
    obtain ⟨ms, h1, h2⟩ := e
    subst h2
    have := DrL.zints h.2 h1
    have h0 := h.1
    rw [Dr] at h0
    simp [this, h0]
theorem DrL.bls {α : List Addr} : ∀ {ds : List Mini.D} {vs : List V} {ns : List Bool}, DrL K G α ds vs → Mini.bls ds = some ns → vs = ns.map V.bl
  | [], [], ns, _, h => by simp [Mini.bls] at h; subst h; rfl
  | [], _ :: _, _, h, _ => by simp [DrL] at h
  | _ :: _, [], _, h, _ => by simp [DrL] at h
  | d :: ds, v :: vs, ns, h, e => by
    rw [DrL] at h
    cases d <;> simp [Mini.bls] at e
    obtain ⟨ms, h1, h2⟩ := e
    subst h2
    have := DrL.bls h.2 h1
    have h0 := h.1
    rw [Dr] at h0
    simp [this, h0]
theorem DrL.zstrs {α : List Addr} : ∀ {ds : List Mini.D} {vs : List V} {ns : List (List Nat)}, DrL K G α ds vs → Mini.zstrs ds = some ns → vs = ns.map fun z => V.str ⟨z.toArray⟩
  | [], [], ns, _, h => by simp [Mini.zstrs] at h; subst h; rfl
  | [], _ :: _, _, h, _ => by simp [DrL] at h
  | _ :: _, [], _, h, _ => by simp [DrL] at h
  | d :: ds, v :: vs, ns, h, e => by
    rw [DrL] at h
    cases d <;> simp [Mini.zstrs] at e
    obtain ⟨ms, h1, h2⟩ := e
    subst h2
    have := DrL.zstrs h.2 h1
    have h0 := h.1
    rw [Dr] at h0
    simp [this, h0]
end

/-! ### states -/
def ObR (K : PySem.W.Frag) (G : Hp) : Mini.Ob → Option HO → Prop
  | .L ds, o => ∃ xs, o = some (.lst xs) ∧ DrL K G [] ds xs
  | .DI ks, o => o = some (.dK (ks.map fun k => (Sum.inl k, V.bl true)))
  | .DT ks, o => o = some (.dT (ks.map fun k => (k.map Sum.inl, V.bl true)))
structure StR (K : PySem.W.Frag) (P α : List Addr) (s : Mini.Sto) (H : Hp) : Prop where
  nd : α.Nodup
  dis : ∀ a ∈ α, a ∉ P
  pt : ∀ b ∈ P, H b ≠ none
  len : s.length = α.length
  ob : ∀ (k : Nat) o a, s[k]? = some o → α[k]? = some a → ObR K (imm H P α) o (H a)
structure Gr (P α : List Addr) (H : Hp) (α' : List Addr) (H' : Hp) : Prop where
  pre : ∀ (k : Nat) a, α[k]? = some a → α'[k]? = some a
  ext : Ext (imm H P α) (imm H' P α')
  keep : ∀ b ∈ P, ∀ o, H b = some o → H' b = some o
theorem Gr.refl (P α : List Addr) (H : Hp) : Gr P α H α H := ⟨fun _ _ h => h, Ext.refl _, fun _ _ _ h => h⟩
theorem Gr.trans {P α α' α2 : List Addr} {H H' H2 : Hp} (a : Gr P α H α' H') (b : Gr P α' H' α2 H2) : Gr P α H α2 H2 :=
  ⟨fun k x h => b.pre k x (a.pre k x h), a.ext.trans b.ext, fun c hc o h => b.keep c hc o (a.keep c hc o h)⟩
section
variable {K : PySem.W.Frag} {P α α' : List Addr} {s : Mini.Sto} {H H' : Hp}
theorem Gr.dr (g : Gr P α H α' H') {d : Mini.D} {v : V} (h : Dr K (imm H P α) α d v) : Dr K (imm H' P α') α' d v := Dr.mono g.ext g.pre h
theorem Gr.drL (g : Gr P α H α' H') {d : List Mini.D} {v : List V} (h : DrL K (imm H P α) α d v) : DrL K (imm H' P α') α' d v := DrL.mono g.ext g.pre h
theorem ObR.some_of {G : Hp} {o : Mini.Ob} {x : Option HO} (h : ObR K G o x) : x ≠ none := by
  cases o with
  | L ds => obtain ⟨xs, rfl, _⟩ := h; simp
  | DI ks => rw [ObR] at h; rw [h]; simp
  | DT ks => rw [ObR] at h; rw [h]; simp
theorem ObR.mono {G G' : Hp} {o : Mini.Ob} {x : Option HO} (e : Ext G G') (h : ObR K G o x) : ObR K G' o x := by
  cases o with
  | L ds => obtain ⟨xs, h1, h2⟩ := h; exact ⟨xs, h1, DrL.mono e (fun _ _ q => q) h2⟩
  | DI ks => exact h
  | DT ks => exact h
theorem StR.there (h : StR K P α s H) {a : Addr} (ha : a ∈ α) : H a ≠ none := by
  obtain ⟨k, hk, e⟩ := List.getElem_of_mem ha
  have hk' : k < s.length := by rw [h.len]; exact hk
  exact (h.ob k s[k] a (List.getElem?_eq_getElem hk') (by rw [List.getElem?_eq_getElem hk, e])).some_of
/-- a new object -/
theorem StR.new (h : StR K P α s H) {p : Addr} {o : HO} (hp : H p = none) : Gr P α H α (upd H p o) ∧ StR K P α s (upd H p o) ∧ imm (upd H p o) P α p = some o := by
  have n1 : p ∉ P := fun z => h.pt p z hp
  have n2 : p ∉ α := fun z => h.there z hp
  have e : Ext (imm H P α) (imm (upd H p o) P α) := fun b u q => by
    rw [imm_some] at q ⊢
    exact ⟨q.1, q.2.1, by rw [upd_ne (ne_of_none q.2.2 hp)]; exact q.2.2⟩
  refine ⟨⟨fun _ _ q => q, e, fun b hb u q => by rw [upd_ne (ne_of_none q hp)]; exact q⟩, ⟨h.nd, h.dis, fun b hb => ?_, h.len, fun k u a h1 h2 => ?_⟩, imm_some.mpr ⟨n1, n2, upd_same⟩⟩
  · rw [upd_ne (show b ≠ p from fun z => n1 (z ▸ hb))]
    exact h.pt b hb
  · have ha : a ∈ α := List.mem_of_getElem? h2
    rw [upd_ne (show a ≠ p from fun z => n2 (z ▸ ha))]
    exact (h.ob k u a h1 h2).mono e
theorem StR.chk (h : StR K P α s H) {ds : List Mini.D} {xs : List V} {G : Hp} (c : Mini.chk s ds = true) (r : DrL K G α ds xs) : DrL K G [] ds xs := by
  unfold Mini.chk at c
  rw [Bool.or_eq_true] at c
  rcases c with c | c
  · have e : s = [] := by simpa using c
    have : α = [] := by
      have := h.len
      rw [e] at this
      exact List.eq_nil_of_length_eq_zero this.symm
    rw [this] at r
    exact r
  · exact DrL.free c r
def EnvR (K : PySem.W.Frag) (G : Hp) (α : List Addr) (e : Mini.Env) (σ : L2.St) : Prop := e.length = σ.length ∧ ∀ (i : Nat) d, e[i]? = some (some d) → ∃ v, σ[i]? = some (some v) ∧ Dr K G α d v
structure SR (K : PySem.W.Frag) (P α : List Addr) (e : Mini.Env) (s : Mini.Sto) (σ : L2.St) (H : Hp) : Prop where
  st : StR K P α s H
  env : EnvR K (imm H P α) α e σ
theorem EnvR.gr {e : Mini.Env} {σ : L2.St} (h : EnvR K (imm H P α) α e σ) (g : Gr P α H α' H') : EnvR K (imm H' P α') α' e σ :=
  ⟨h.1, fun i d q => let ⟨v, h1, h2⟩ := h.2 i d q; ⟨v, h1, g.dr h2⟩⟩
theorem SR.gr {e : Mini.Env} {σ : L2.St} {s' : Mini.Sto} (h : SR K P α e s σ H) (g : Gr P α H α' H') (h' : StR K P α' s' H') : SR K P α' e s' σ H' := ⟨h', h.env.gr g⟩
theorem EnvR.set {G : Hp} {e : Mini.Env} {σ : L2.St} (h : EnvR K G α e σ) {i : Nat} {d : Mini.D} {v : V} (hd : Dr K G α d v) : EnvR K G α (e.set i (some d)) (σ.set i (some v)) := by
  refine ⟨by simp [h.1], fun j d' q => ?_⟩
  by_cases hj : i = j
  · subst hj
    rw [List.getElem?_set] at q
    simp only [if_true] at q
    split at q
    · rename_i hlt
      cases q
      exact ⟨v, by rw [List.getElem?_set]; simp [← h.1, hlt], hd⟩
    · cases q
  · rw [List.getElem?_set_ne hj] at q
    obtain ⟨w, h1, h2⟩ := h.2 j d' q
    exact ⟨w, by rw [List.getElem?_set_ne hj]; exact h1, h2⟩
theorem SR.set {e : Mini.Env} {σ : L2.St} (h : SR K P α e s σ H) {i : Nat} {d : Mini.D} {v : V} (hd : Dr K (imm H P α) α d v) : SR K P α (e.set i (some d)) s (σ.set i (some v)) H := ⟨h.st, h.env.set hd⟩
end

/-! ### what is wanted of a run -/
abbrev XC := Nat → Option Addr → Hp → Prop
def E00 : XC := fun _ _ _ => False
def Post (K : PySem.W.Frag) (E : XC) (P α : List Addr) (H : Hp) {β : Type} (r : Mini.R (β × Mini.Sto)) (k : β → Mini.Sto → List Addr → Hp → Prop) : Prop :=
  match r with
  | .ok p => ∀ α' H', Gr P α H α' H' → StR K P α' p.2 H' → k p.1 p.2 α' H'
  | .exc c => ∀ α' H', Gr P α H α' H' → E c none H'
  | .bad => False
section
variable {K : PySem.W.Frag} {E : XC} {P α α' : List Addr} {s : Mini.Sto} {H H' : Hp} {β γ : Type}
theorem Post.later {r : Mini.R (β × Mini.Sto)} {k : β → Mini.Sto → List Addr → Hp → Prop} (h : Post K E P α H r k) (g : Gr P α H α' H') : Post K E P α' H' r k := by
  cases r with
  | ok p => exact fun α2 H2 g2 s2 => h α2 H2 (g.trans g2) s2
  | exc c => exact fun α2 H2 g2 => h α2 H2 (g.trans g2)
  | bad => exact h
theorem Post.unbind {r : Mini.R (β × Mini.Sto)} {f : β × Mini.Sto → Mini.R (γ × Mini.Sto)} {k : γ → Mini.Sto → List Addr → Hp → Prop} (h : Post K E P α H (r.bind f) k) :
    Post K E P α H r fun d s1 α1 H1 => Post K E P α1 H1 (f (d, s1)) k := by
  cases r with
  | ok p => exact fun α1 H1 g1 s1 => Post.later (r := f p) h g1
  | exc c => exact h
  | bad => exact h
theorem Post.imp {r : Mini.R (β × Mini.Sto)} {k k' : β → Mini.Sto → List Addr → Hp → Prop} (h : Post K E P α H r k) (f : ∀ d s1 α1 H1, Gr P α H α1 H1 → StR K P α1 s1 H1 → k d s1 α1 H1 → k' d s1 α1 H1) : Post K E P α H r k' := by
  cases r with
  | ok p => exact fun α1 H1 g1 s1 => f _ _ _ _ g1 s1 (h α1 H1 g1 s1)
  | exc c => exact h
  | bad => exact h
theorem Post.here {d : β} {k : β → Mini.Sto → List Addr → Hp → Prop} (h : Post K E P α H (.ok (d, s)) k) (hs : StR K P α s H) : k d s α H := h α H (Gr.refl _ _ _) hs
/-- a part that is not covered -/
theorem Post.unof {o : Option β} {f : β → Mini.R (γ × Mini.Sto)} {k : γ → Mini.Sto → List Addr → Hp → Prop} (h : Post K E P α H ((Mini.R.of o).bind f) k) : ∃ x, o = some x ∧ Post K E P α H (f x) k := by
  cases o with
  | none => exact h.elim
  | some x => exact ⟨x, rfl, h⟩
theorem Post.unite {c : Prop} [Decidable c] {r : Mini.R (γ × Mini.Sto)} {k : γ → Mini.Sto → List Addr → Hp → Prop} (h : Post K E P α H (if c then r else .bad) k) : c ∧ Post K E P α H r k := by
  split at h
  · rename_i hc; exact ⟨hc, h⟩
  · exact h.elim
end

/-! ### the readings -/
section
variable (K : PySem.W.Frag) (E : XC)
def tM (m : Mini.M) : TE := fun σ H Q => ∃ P α e s, SR K P α e s σ H ∧ Post K E P α H (m e s) fun d s' α' H' => ∀ v, Dr K (imm H' P α') α' d v → Q v H'
def tT (m : Mini.T) : TT := fun σ H Q => ∃ P α e s, SR K P α e s σ H ∧ Post K E P α H (m e s) fun b s' α' H' => Q b H'
def tA (m : Mini.A) : TA := fun σ H Q => ∃ P α e s, SR K P α e s σ H ∧ Post K E P α H (m e s) fun d s' α' H' => ∀ v, DrL K (imm H' P α') α' d v → Q v H'
def tO (m : Mini.PO) : TO := fun σ H Q => ∃ P α e s, SR K P α e s σ H ∧ Post K E P α H (m e s) fun b s' α' H' => Q b H'
def endK (P : List Addr) (D : Ends) : Mini.O → Mini.Sto → List Addr → Hp → Prop
  | .nx e, s, α, H => ∀ σ, SR K P α e s σ H → D.nx σ H
  | .bk e, s, α, H => ∀ σ, SR K P α e s σ H → D.bk σ H
  | .ct e, s, α, H => ∀ σ, SR K P α e s σ H → D.ct σ H
  | .rt d, s, α, H => ∀ v, Dr K (imm H P α) α d v → D.rt v H
def tS (m : Mini.S) : TS := fun D σ H => ∃ P α e s, SR K P α e s σ H ∧ Post K E P α H (m e s) (endK K P D)
end
theorem _root_.L2.PE.to {X : Cx} {e : Expr} {t t' : TE} (h : PE X e t) (c : ∀ σ H Q, t' σ H Q → t σ H Q) : PE X e t' := ⟨fun pins s σ H Q I q => h.run pins s σ H Q I (c _ _ _ q)⟩
theorem _root_.L2.PT.to {X : Cx} {e : Expr} {t t' : TT} (h : PT X e t) (c : ∀ σ H Q, t' σ H Q → t σ H Q) : PT X e t' := ⟨fun pins s σ H Q I q => h.run pins s σ H Q I (c _ _ _ q)⟩
theorem _root_.L2.PW.to {X : Cx} {e : Expr} {t t' : TT} (h : PW X e t) (c : ∀ σ H Q, t' σ H Q → t σ H Q) : PW X e t' := ⟨fun wh pins s σ H Q I q => h.run wh pins s σ H Q I (c _ _ _ q)⟩
theorem _root_.L2.PA.to {X : Cx} {e : List Expr} {t t' : TA} (h : PA X e t) (c : ∀ σ H Q, t' σ H Q → t σ H Q) : PA X e t' := ⟨fun pos pins s σ H Q I q => h.run pos pins s σ H Q I (c _ _ _ q)⟩
theorem _root_.L2.PO.to {X : Cx} {e : Option Expr} {t t' : TO} (h : L2.PO X e t) (c : ∀ σ H Q, t' σ H Q → t σ H Q) : L2.PO X e t' := by
  obtain ⟨r⟩ := h
  constructor
  intros
  apply r <;> first | assumption | (apply c; assumption)
theorem _root_.L2.PS.to {X : Cx} {e : Stmt} {t t' : TS} (h : PS X e t) (c : ∀ D σ H, t' D σ H → t D σ H) : PS X e t' := ⟨fun pins s σ H D I q => h.run pins s σ H D I (c _ _ _ q)⟩
theorem _root_.L2.PSs.to {X : Cx} {e : List Stmt} {t t' : TS} (h : PSs X e t) (c : ∀ D σ H, t' D σ H → t D σ H) : PSs X e t' := ⟨fun pins s σ H D I q => h.run pins s σ H D I (c _ _ _ q)⟩
theorem _root_.L2.PI.to {X : Cx} {tg e : Expr} {t t' : TI} (h : PI X tg e t) (c : ∀ σ H Q, t' σ H Q → t σ H Q) : PI X tg e t' := ⟨fun pins s σ H Q I q => h.run pins s σ H Q I (c _ _ _ q)⟩
theorem _root_.L2.PI.or {X : Cx} {tg e : Expr} {t t' : TI} (h : PI X tg e t) (h' : PI X tg e t') : PI X tg e (fun σ H R => t σ H R ∨ t' σ H R) :=
  ⟨fun pins s σ H Q I q => q.elim (h.run pins s σ H Q I) (h'.run pins s σ H Q I)⟩
end Snd
end
section
namespace Snd
open PySem L2

/-! ### seen in the whole heap -/
def DrH (K : PySem.W.Frag) (H G : Hp) (α : List Addr) : Mini.D → V → Prop
  | .tup ds, v => ∃ a xs, v = .ref a ∧ H a = some (.tup xs) ∧ DrL K G α ds xs
  | .lst ds, v => ∃ a xs, v = .ref a ∧ H a = some (.lst xs) ∧ DrL K G [] ds xs
  | .scr ns, v => ∃ a, v = .ref a ∧ SqL K H a (ns.map V.int)
  | .dic n, v => ∃ a kvs, v = .ref a ∧ H a = some (.dT kvs) ∧ kvs.length = n
  | d, v => Dr K G α d v
section
variable {K : PySem.W.Frag} {P α : List Addr} {s : Mini.Sto} {H : Hp}
theorem dr_drH {d : Mini.D} {v : V} (h : Dr K (imm H P α) α d v) : DrH K H (imm H P α) α d v := by
  cases d with
  | tup ds => rw [Dr] at h; obtain ⟨a, xs, h1, h2, h3⟩ := h; exact ⟨a, xs, h1, imm_sub _ _ _ _ _ h2, h3⟩
  | lst ds => rw [Dr] at h; obtain ⟨a, xs, h1, h2, h3⟩ := h; exact ⟨a, xs, h1, imm_sub _ _ _ _ _ h2, h3⟩
  | scr ns => rw [Dr] at h; obtain ⟨a, h1, h2⟩ := h; exact ⟨a, h1, (imm_sub _ _ _).sqL h2⟩
  | dic n => rw [Dr] at h; obtain ⟨a, kvs, h1, h2, h3⟩ := h; exact ⟨a, kvs, h1, imm_sub _ _ _ _ _ h2, h3⟩
  | _ => exact h
theorem own_ob (hs : StR K P α s H) {k : Nat} {v : V} {o : Mini.Ob} (h : Dr K (imm H P α) α (.own k) v) (e : s[k]? = some o) : ∃ a, α[k]? = some a ∧ v = .ref a ∧ ObR K (imm H P α) o (H a) := by
  rw [Dr] at h
  obtain ⟨a, h1, h2⟩ := h
  exact ⟨a, h1, h2, hs.ob k o a e h1⟩
theorem rz_dr (hs : StR K P α s H) {d : Mini.D} {v : V} (h : Dr K (imm H P α) α d v) : DrH K H (imm H P α) α (Mini.rz s d) v := by
  cases d with
  | own k =>
    cases e : s[k]? with
    | none => simp only [Mini.rz, e]; exact h
    | some o =>
      cases o with
      | L ds =>
        simp only [Mini.rz, e]
        obtain ⟨a, _, rfl, h4⟩ := own_ob hs h e
        obtain ⟨xs, h2, h3⟩ := h4
        exact ⟨a, xs, rfl, h2, h3⟩
      | DI ks => simp only [Mini.rz, e]; exact h
      | DT ks => simp only [Mini.rz, e]; exact h
  | _ => exact dr_drH h
end

section
variable {X : Cx} {E : XC} {a b : Expr} {pos : Pos}
theorem pm_v {i : Nat} {x : Str} (h : PE X (.Name x pos) (tVar i)) : PE X (.Name x pos) (tM X.K E (Mini.mV i)) := h.to fun σ H Q ⟨P, α, e, s, hS, q⟩ => by
  unfold Mini.mV at q
  split at q
  · rename_i d he
    obtain ⟨v, hv, hd⟩ := hS.env.2 i d he
    exact ⟨v, hv, q.here hS.st v hd⟩
  · exact q.elim
theorem pm_c {e : Expr} {d : Mini.D} {v : V} (h : PE X e (tC v)) (hd : ∀ G α, Dr X.K G α d v) : PE X e (tM X.K E (Mini.mC d)) := h.to fun σ H Q ⟨P, α, e, s, hS, q⟩ => q.here hS.st v (hd _ _)
theorem pm_int {i : Int} {j : Nat} : PE X (.Constant (.int i) j pos) (tM X.K E (Mini.mC (.int i))) := pm_c pe_int fun _ _ => by simp [Dr]
theorem pm_bl {i : Bool} {j : Nat} : PE X (.Constant (.bool i) j pos) (tM X.K E (Mini.mC (.bl i))) := pm_c pe_bl fun _ _ => by simp [Dr]
theorem pm_non {j : Nat} : PE X (.Constant .none j pos) (tM X.K E (Mini.mC .non)) := pm_c pe_non fun _ _ => by simp [Dr]
theorem pm_str {x : Str} {j : Nat} {z : List Nat} (hx : x = ⟨z.toArray⟩ := by decide +kernel) : PE X (.Constant (.str x) j pos) (tM X.K E (Mini.mC (.str z))) := pm_c pe_str fun _ _ => by simp [Dr, hx]
theorem pm_glob {x : Str} {z : List Nat} {t : Tok} (hg : Gl X x) (hm : X.mg x = some (.str ⟨z.toArray⟩ t)) (hd : (x == ("__debug__" : Str)) = false := by decide) : PE X (.Name x pos) (tM X.K E (Mini.mC (.str z))) :=
  pm_c (pe_glob (v := .str ⟨z.toArray⟩) hg hm ⟨_, rfl⟩ hd) fun _ _ => by simp [Dr]
theorem pm_globI {x : Str} {z : Int} {t : Tok} (hg : Gl X x) (hm : X.mg x = some (.int z t)) (hd : (x == ("__debug__" : Str)) = false := by decide) : PE X (.Name x pos) (tM X.K E (Mini.mC (.int z))) :=
  pm_c (pe_glob (v := .int z) hg hm ⟨_, rfl⟩ hd) fun _ _ => by simp [Dr]
/-- arguments -/
theorem am_nil : PA X [] (tA X.K E Mini.aNil) := pa_nil.to fun σ H Q ⟨P, α, e, s, hS, q⟩ => q.here hS.st [] (by simp [DrL])
theorem am_cons {e : Expr} {es : List Expr} {m : Mini.M} {ma : Mini.A} (h : PE X e (tM X.K E m)) (hr : PA X es (tA X.K E ma)) (hs : starEach (e :: es) X.env = (false, eval e X.env) :: starEach es X.env := by rfl) :
    PA X (e :: es) (tA X.K E (Mini.aCons m ma)) := (pa_cons h hr hs).to fun σ H Q ⟨P, α, e, s, hS, q⟩ =>
  ⟨P, α, e, s, hS, (Post.unbind q).imp fun d s1 α1 H1 g1 t1 q1 v hv => ⟨P, α1, e, s1, hS.gr g1 t1, (Post.unbind q1).imp fun ds s2 α2 H2 g2 t2 q2 vs hvs => q2.here t2 (v :: vs) (by rw [DrL]; exact ⟨g2.dr hv, hvs⟩)⟩⟩
theorem l100 {n : Nat} (h : n ≤ 100) : n ≤ sizeLine := Nat.le_trans h (by rw [sizeLine_eq]; decide)
theorem pm_tup {es : List Expr} {x1} {ma : Mini.A} (h : PA X es (tA X.K E ma)) : PE X (.Tuple es x1 pos) (tM X.K E (Mini.mTup ma)) := (pe_tup h).to fun σ H Q ⟨P, α, e, s, hS, q⟩ =>
  ⟨P, α, e, s, hS, (Post.unbind q).imp fun ds s1 α1 H1 g1 t1 q1 vs hvs => by
    obtain ⟨hc, q1⟩ := q1.unite
    refine ⟨l100 (by rw [← hvs.len]; exact hc), fun p hp => ?_⟩
    obtain ⟨g2, t2, hi⟩ := t1.new (o := .tup vs) hp
    refine q1 α1 _ g2 t2 _ ?_
    rw [Dr]
    exact ⟨p, vs, rfl, hi, g2.drL hvs⟩⟩
theorem pm_lst {es : List Expr} {ma : Mini.A} (h : PA X es (tA X.K E ma)) : PE X (.List es pos) (tM X.K E (Mini.mLst ma)) := (pe_lst h).to fun σ H Q ⟨P, α, e, s, hS, q⟩ =>
  ⟨P, α, e, s, hS, (Post.unbind q).imp fun ds s1 α1 H1 g1 t1 q1 vs hvs => by
    obtain ⟨⟨hc, hk⟩, q1⟩ := q1.unite
    refine ⟨l100 (by rw [← hvs.len]; exact hc), fun p hp => ?_⟩
    obtain ⟨g2, t2, hi⟩ := t1.new (o := .lst vs) hp
    refine q1 α1 _ g2 t2 _ ?_
    rw [Dr]
    exact ⟨p, vs, rfl, hi, DrL.mono g2.ext (fun _ _ q => q) (t1.chk hk hvs)⟩⟩

/-! ### two operands -/
/-- what follows a step that changes nothing owned -/
def Then (K : PySem.W.Frag) (P α : List Addr) (s : Mini.Sto) (H : Hp) (d : Mini.D) (Q : VK) : Prop := ∀ v H', Gr P α H α H' → StR K P α s H' → Dr K (imm H' P α) α d v → Q v H'
structure Sem2 (X : Cx) (f : Value → Value → Sem Value) (o : Mini.Op) (r : R2) : Prop where
  op : OpR X f r
  ok : ∀ {P α s H x y va vb d} {Q : VK}, StR X.K P α s H → Dr X.K (imm H P α) α x va → Dr X.K (imm H P α) α y vb → o s (Mini.rz s x) (Mini.rz s y) = some d → Then X.K P α s H d Q → r va vb H Q
theorem two {o : Mini.Op} {r : R2} {ma mb : Mini.M} {f : Value → Value → Sem Value} (S : Sem2 X f o r) : ∀ σ H Q, tM X.K E (Mini.mOp o ma mb) σ H Q → tOp r (tM X.K E ma) (tM X.K E mb) σ H Q :=
  fun σ H Q ⟨P, α, e, s, hS, q⟩ => ⟨P, α, e, s, hS, (Post.unbind q).imp fun d s1 α1 H1 g1 t1 q1 v hv => ⟨P, α1, e, s1, hS.gr g1 t1, (Post.unbind q1).imp fun d2 s2 α2 H2 g2 t2 q2 u hu => by
    obtain ⟨z, hz, q2⟩ := q2.unof
    exact S.ok t2 (g2.dr hv) hu hz fun w H3 g3 t3 hw => q2 α2 H3 g3 t3 w hw⟩⟩
theorem pm_op {op : Operator} {o : Mini.Op} {r : R2} {ma mb : Mini.M} (S : Sem2 X (binaryOp op) o r) (ha : PE X a (tM X.K E ma)) (hb : PE X b (tM X.K E mb)) : PE X (.BinOp a op b pos) (tM X.K E (Mini.mOp o ma mb)) := (pe_op S.op ha hb).to (two S)
theorem pm_cmp {op : CmpOp} {o : Mini.Op} {r : R2} {ma mb : Mini.M} (S : Sem2 X (compareOp op) o r) (ha : PE X a (tM X.K E ma)) (hb : PE X b (tM X.K E mb)) (hm : behindInMarks op b = false) : PE X (.Compare a [op] [b] pos) (tM X.K E (Mini.mOp o ma mb)) := (pe_cmpR S.op ha hb hm).to (two S)
theorem test_of {m : Mini.M} {t : TE} (h : ∀ σ H Q, tM X.K E m σ H Q → t σ H Q) : ∀ σ H Q, tT X.K E (Mini.tV m) σ H Q → tTest t σ H Q := fun σ H Q ⟨P, α, e, s, hS, q⟩ =>
  h σ H _ ⟨P, α, e, s, hS, (Post.unbind q).imp fun d s1 α1 H1 g1 t1 q1 v hv => by
    obtain ⟨z, hz, q1⟩ := q1.unof
    cases d <;> simp [Mini.isBl] at hz
    subst hz
    rw [Dr] at hv
    exact ⟨_, hv, q1.here t1⟩⟩
theorem tm_cmp {op : CmpOp} {o : Mini.Op} {r : R2} {ma mb : Mini.M} (S : Sem2 X (compareOp op) o r) (ha : PE X a (tM X.K E ma)) (hb : PE X b (tM X.K E mb)) (hm : behindInMarks op b = false) : PT X (.Compare a [op] [b] pos) (tT X.K E (Mini.tV (Mini.mOp o ma mb))) := (pt_cmpR S.op ha hb hm).to (test_of (two S))
theorem tm_val {e : Expr} {m : Mini.M} (h : PE X e (tM X.K E m)) (he : ∀ whole, isTrue e X.env whole = (do let v ← whole; standAt e.pos; holding [v] (truthy v)) := by intro _; rfl) : PT X e (tT X.K E (Mini.tV m)) :=
  (pt_val h he).to (test_of fun _ _ _ q => q)
theorem chain_of {o o' : Mini.Op} {r r' : R2} {ma mb mc : Mini.M} {f g : Value → Value → Sem Value} (S : Sem2 X f o r) (S' : Sem2 X g o' r') : ∀ σ H Q, tM X.K E (Mini.mChain o o' ma mb mc) σ H Q → tChain r r' (tM X.K E ma) (tM X.K E mb) (tM X.K E mc) σ H Q :=
  fun σ H Q ⟨P, α, e, s, hS, q⟩ => ⟨P, α, e, s, hS, (Post.unbind q).imp fun d s1 α1 H1 g1 t1 q1 v hv => ⟨P, α1, e, s1, hS.gr g1 t1, (Post.unbind q1).imp fun d2 s2 α2 H2 g2 t2 q2 u hu => by
    obtain ⟨z, hz, q2⟩ := q2.unof
    obtain ⟨y, hy, hz⟩ := Option.bind_eq_some_iff.mp hz
    cases y <;> simp [Mini.isBl] at hz
    subst hz
    refine S.ok t2 (g2.dr hv) hu hy fun w H3 g3 t3 hw => ?_
    rw [Dr] at hw
    refine ⟨_, hw, ?_⟩
    split
    · rename_i hk
      simp only [hk, if_true] at q2
      exact ⟨P, α2, e, s2, hS.gr (g1.trans (g2.trans g3)) t3, (Post.unbind (Post.later q2 g3)).imp fun d4 s4 α4 H4 g4 t4 q4 w4 hw4 => by
        obtain ⟨z4, hz4, q4⟩ := q4.unof
        exact S'.ok t4 (g4.dr (g3.dr hu)) hw4 hz4 fun w5 H5 g5 t5 hw5 => q4 α4 H5 g5 t5 w5 hw5⟩
    · rename_i hk
      rw [Bool.not_eq_true] at hk
      subst hk
      exact q2 α2 H3 g3 t3 (.bl false) (by simp [Dr])⟩⟩
theorem pm_chain {c : Expr} {op op' : CmpOp} {o o' : Mini.Op} {r r' : R2} {ma mb mc : Mini.M} (S : Sem2 X (compareOp op) o r) (S' : Sem2 X (compareOp op') o' r') (ha : PE X a (tM X.K E ma)) (hb : PE X b (tM X.K E mb)) (hc : PE X c (tM X.K E mc)) (hm : lastMarks [op, op'] [b, c] = false := by rfl) :
    PE X (.Compare a [op, op'] [b, c] pos) (tM X.K E (Mini.mChain o o' ma mb mc)) := (pe_chain S.op S'.op ha hb hc hm).to (chain_of S S')
theorem tm_chain {c : Expr} {op op' : CmpOp} {o o' : Mini.Op} {r r' : R2} {ma mb mc : Mini.M} (S : Sem2 X (compareOp op) o r) (S' : Sem2 X (compareOp op') o' r') (ha : PE X a (tM X.K E ma)) (hb : PE X b (tM X.K E mb)) (hc : PE X c (tM X.K E mc)) (hm : lastMarks [op, op'] [b, c] = false := by rfl) :
    PT X (.Compare a [op, op'] [b, c] pos) (tT X.K E (Mini.tV (Mini.mChain o o' ma mb mc))) := (pt_chain S.op S'.op ha hb hc hm).to (test_of (chain_of S S'))

/-! ### and, or, not, if -/
theorem pm_and {rest : List Expr} {ma mb : Mini.M} (ha : PE X a (tM X.K E ma)) (hb : PE X (.BoolOp .And (b :: rest) pos) (tM X.K E mb)) : PE X (.BoolOp .And (a :: b :: rest) pos) (tM X.K E (Mini.mAnd ma mb)) :=
  (pe_and ha hb).to fun σ H Q ⟨P, α, e, s, hS, q⟩ => ⟨P, α, e, s, hS, (Post.unbind q).imp fun d s1 α1 H1 g1 t1 q1 v hv => by
    obtain ⟨z, hz, q1⟩ := q1.unof
    cases d <;> simp [Mini.isBl] at hz
    subst hz
    rw [Dr] at hv
    refine ⟨_, hv, ?_⟩
    split
    · rename_i hk
      simp only [hk, if_true] at q1
      exact ⟨P, α1, e, s1, hS.gr g1 t1, q1⟩
    · rename_i hk
      simp only [hk, if_false] at q1
      exact q1.here t1 _ (by simp [Dr])⟩
theorem pm_or {rest : List Expr} {ma mb : Mini.M} (ha : PE X a (tM X.K E ma)) (hb : PE X (.BoolOp .Or (b :: rest) pos) (tM X.K E mb)) : PE X (.BoolOp .Or (a :: b :: rest) pos) (tM X.K E (Mini.mOr ma mb)) :=
  (pe_or ha hb).to fun σ H Q ⟨P, α, e, s, hS, q⟩ => ⟨P, α, e, s, hS, (Post.unbind q).imp fun d s1 α1 H1 g1 t1 q1 v hv => by
    obtain ⟨z, hz, q1⟩ := q1.unof
    cases d <;> simp [Mini.isBl] at hz
    subst hz
    rw [Dr] at hv
    refine ⟨_, hv, ?_⟩
    split
    · rename_i hk
      simp only [hk, if_true] at q1
      exact q1.here t1 _ (by simp [Dr])
    · rename_i hk
      simp only [hk, if_false] at q1
      exact ⟨P, α1, e, s1, hS.gr g1 t1, q1⟩⟩
theorem pm_one {op : BoolOp} {ma : Mini.M} (ha : PE X a (tM X.K E ma)) : PE X (.BoolOp op [a] pos) (tM X.K E ma) := pe_one ha
theorem pm_not {ma : Mini.M} (ha : PE X a (tM X.K E ma)) : PE X (.UnaryOp .Not a pos) (tM X.K E (Mini.mNot ma)) :=
  (pe_not ha).to fun σ H Q ⟨P, α, e, s, hS, q⟩ => ⟨P, α, e, s, hS, (Post.unbind q).imp fun d s1 α1 H1 g1 t1 q1 v hv => by
    obtain ⟨z, hz, q1⟩ := q1.unof
    cases d <;> simp [Mini.isBl] at hz
    subst hz
    rw [Dr] at hv
    exact ⟨_, hv, q1.here t1 _ (by simp [Dr])⟩⟩
theorem wm_and1 {t : Mini.T} (ha : PT X a (tT X.K E t)) : PW X (.BoolOp .And [a] pos) (tT X.K E t) := pw_and1 ha
theorem wm_or1 {t : Mini.T} (ha : PT X a (tT X.K E t)) : PW X (.BoolOp .Or [a] pos) (tT X.K E t) := pw_or1 ha
theorem wm_and {rest : List Expr} {t u : Mini.T} (ha : PT X a (tT X.K E t)) (hb : PW X (.BoolOp .And (b :: rest) pos) (tT X.K E u)) : PW X (.BoolOp .And (a :: b :: rest) pos) (tT X.K E (Mini.tAnd t u)) :=
  (pw_and ha hb).to fun σ H Q ⟨P, α, e, s, hS, q⟩ => ⟨P, α, e, s, hS, (Post.unbind q).imp fun d s1 α1 H1 g1 t1 q1 => by
    dsimp only at q1 ⊢
    split
    · rename_i hk
      simp only [hk, if_true] at q1
      exact ⟨P, α1, e, s1, hS.gr g1 t1, q1⟩
    · rename_i hk
      simp only [hk, if_false] at q1
      exact q1.here t1⟩
theorem wm_or {rest : List Expr} {t u : Mini.T} (ha : PT X a (tT X.K E t)) (hb : PW X (.BoolOp .Or (b :: rest) pos) (tT X.K E u)) : PW X (.BoolOp .Or (a :: b :: rest) pos) (tT X.K E (Mini.tOr t u)) :=
  (pw_or ha hb).to fun σ H Q ⟨P, α, e, s, hS, q⟩ => ⟨P, α, e, s, hS, (Post.unbind q).imp fun d s1 α1 H1 g1 t1 q1 => by
    dsimp only at q1 ⊢
    split
    · rename_i hk
      simp only [hk, if_true] at q1
      exact q1.here t1
    · rename_i hk
      simp only [hk, if_false] at q1
      exact ⟨P, α1, e, s1, hS.gr g1 t1, q1⟩⟩
theorem tm_not {t : Mini.T} (ha : PT X a (tT X.K E t)) : PT X (.UnaryOp .Not a pos) (tT X.K E (Mini.tNot t)) :=
  (pt_not ha).to fun σ H Q ⟨P, α, e, s, hS, q⟩ => ⟨P, α, e, s, hS, (Post.unbind q).imp fun d s1 α1 H1 g1 t1 q1 => q1.here t1⟩
theorem tm_truth {e : Expr} {m : Mini.M} (h : PE X e (tM X.K E m)) (he : ∀ whole, isTrue e X.env whole = (do let v ← whole; standAt e.pos; holding [v] (truthy v)) := by intro _; rfl) : PT X e (tT X.K E (Mini.tT m)) :=
  (pt_truth h he).to fun σ H Q ⟨P, α, e, s, hS, q⟩ => ⟨P, α, e, s, hS, (Post.unbind q).imp fun d s1 α1 H1 g1 t1 q1 v hv => by
    obtain ⟨z, hz, q1⟩ := q1.unof
    refine ⟨z, ?_, q1.here t1⟩
    have hd := rz_dr t1 hv
    generalize Mini.rz s1 d = d' at hz hd
    cases d' with
    | non => simp [Mini.tru] at hz; subst hz; simp [DrH, Dr] at hd; subst hd; rfl
    | bl b => simp [Mini.tru] at hz; subst hz; simp [DrH, Dr] at hd; subst hd; rfl
    | int b => simp [Mini.tru] at hz; subst hz; simp [DrH, Dr] at hd; subst hd; rfl
    | str w =>
      simp [DrH, Dr] at hd; subst hd
      simp only [Mini.tru] at hz
      split at hz
      · rename_i hl
        cases hz
        refine ⟨?_, ?_⟩
        · rw [sizeLine_eq]; exact hl
        · show (!w.isEmpty) = (((⟨w.toArray⟩ : Str).length : Int) != 0)
          cases w with
          | nil => rfl
          | cons c w =>
            show true = (((c :: w).toArray.size : Int) != 0)
            simp
            omega
      · cases hz
    | lst ds =>
      obtain ⟨p, xs, rfl, h1, h2⟩ := hd
      have hz' : some (!ds.isEmpty) = some z := hz
      cases hz'
      refine .inl ⟨xs, .of h1, ?_⟩
      have := h2.len
      cases ds <;> cases xs <;> simp_all
    | tup ds =>
      obtain ⟨p, xs, rfl, h1, h2⟩ := hd
      have hz' : some (!ds.isEmpty) = some z := hz
      cases hz'
      refine .inr (.inl ⟨xs, .of h1, ?_⟩)
      have := h2.len
      cases ds <;> cases xs <;> simp_all
    | scr => simp [Mini.tru] at hz
    | own => simp [Mini.tru] at hz
    | dic => simp [Mini.tru] at hz⟩
theorem pm_if {c : Expr} {t : Mini.T} {ma mb : Mini.M} (hc : PT X c (tT X.K E t)) (ha : PE X a (tM X.K E ma)) (hb : PE X b (tM X.K E mb)) : PE X (.IfExp c a b pos) (tM X.K E (Mini.mIf t ma mb)) :=
  (pe_ifExp hc ha hb).to fun σ H Q ⟨P, α, e, s, hS, q⟩ => ⟨P, α, e, s, hS, (Post.unbind q).imp fun d s1 α1 H1 g1 t1 q1 => by
    dsimp only at q1 ⊢
    split
    · rename_i hk
      simp only [hk, if_true] at q1
      exact ⟨P, α1, e, s1, hS.gr g1 t1, q1⟩
    · rename_i hk
      simp only [hk, if_false] at q1
      exact ⟨P, α1, e, s1, hS.gr g1 t1, q1⟩⟩
theorem pm_neg {ma : Mini.M} (ha : PE X a (tM X.K E ma)) : PE X (.UnaryOp .USub a pos) (tM X.K E (Mini.mNeg ma)) :=
  (pe_un un_neg ha).to fun σ H Q ⟨P, α, e, s, hS, q⟩ => ⟨P, α, e, s, hS, (Post.unbind q).imp fun d s1 α1 H1 g1 t1 q1 v hv => by
    cases d <;> simp only at q1 <;> first | exact q1.elim | skip
    rw [Dr] at hv
    exact ⟨_, hv, q1.here t1 _ (by simp [Dr])⟩⟩
end
end Snd
end
section
namespace Snd
open PySem L2

theorem sl {n : Nat} (h : n ≤ 16777216) : n ≤ sizeLine := by rw [sizeLine_eq]; exact h
theorem slt {n : Nat} (h : n < 16777216) : n < sizeLine := by rw [sizeLine_eq]; exact h
section
variable {K : PySem.W.Frag} {P α : List Addr} {s : Mini.Sto} {H : Hp}
theorem new_lst (hs : StR K P α s H) {p : Addr} {ds : List Mini.D} {xs : List V} {Q : VK} (hp : H p = none) (hd : DrL K (imm H P α) [] ds xs) (k : Then K P α s H (.lst ds) Q) : Q (.ref p) (upd H p (.lst xs)) := by
  obtain ⟨g2, t2, hi⟩ := hs.new (o := .lst xs) hp
  refine k _ _ g2 t2 ?_
  rw [Dr]
  exact ⟨p, xs, rfl, hi, DrL.mono g2.ext (fun _ _ q => q) hd⟩
theorem new_tup (hs : StR K P α s H) {p : Addr} {ds : List Mini.D} {xs : List V} {Q : VK} (hp : H p = none) (hd : DrL K (imm H P α) α ds xs) (k : Then K P α s H (.tup ds) Q) : Q (.ref p) (upd H p (.tup xs)) := by
  obtain ⟨g2, t2, hi⟩ := hs.new (o := .tup xs) hp
  refine k _ _ g2 t2 ?_
  rw [Dr]
  exact ⟨p, xs, rfl, hi, g2.drL hd⟩
theorem now {d : Mini.D} {v : V} {Q : VK} (k : Then K P α s H d Q) (hs : StR K P α s H) (h : Dr K (imm H P α) α d v) : Q v H := k v H (Gr.refl _ _ _) hs h
/-- a value seen in the whole heap: not a list of one's own, so seen where it stands -/
theorem DrH.dr {d : Mini.D} {v : V} (h : DrH K H (imm H P α) α d v) (f : Mini.flat d = true) : Dr K (imm H P α) α d v := by
  cases d <;> simp [Mini.flat] at f <;> exact h
end

def orR (r r' : R2) : R2 := fun x y H Q => r x y H Q ∨ r' x y H Q
section
variable {X : Cx}
def rStr : R2 := fun x y H Q => ∃ i j, x = .str i ∧ y = .str j ∧ i.length + j.length ≤ sizeLine ∧ Q (.str (i ++ j)) H
theorem sem_add : Sem2 X (binaryOp .Add) Mini.opAdd (orR (rI0 fun i j => .int (i + j)) (orR rStr rCat)) := by
  refine ⟨op_add.or (op_add_str.or op_cat), ?_⟩
  intro P α s H x y va vb d Q hs hx hy e k
  replace hx := rz_dr hs hx
  replace hy := rz_dr hs hy
  generalize Mini.rz s x = x' at *
  generalize Mini.rz s y = y' at *
  cases x' <;> cases y' <;> simp [Mini.opAdd] at e
  · subst e
    simp [DrH, Dr] at hx hy
    subst hx; subst hy
    exact .inl ⟨_, _, rfl, rfl, now k hs (by simp [Dr])⟩
  · obtain ⟨hl, e⟩ := e
    subst e
    simp [DrH, Dr] at hx hy
    subst hx; subst hy
    refine .inr (.inl ⟨_, _, rfl, rfl, sl hl, now k hs ?_⟩)
    rw [Dr]
    show V.str ⟨_ ++ _⟩ = _
    simp
  · obtain ⟨hl, e⟩ := e
    subst e
    obtain ⟨a, xs, rfl, h1, h2⟩ := hx
    obtain ⟨b, ys, rfl, h3, h4⟩ := hy
    exact .inr (.inr ⟨a, b, xs, ys, rfl, rfl, h1, h3, sl (by rw [← h2.len, ← h4.len]; exact hl), fun p hp => new_lst hs hp (h2.append h4) k⟩)
theorem sem_sub : Sem2 X (binaryOp .Sub) Mini.opSub (rI0 fun i j => .int (i - j)) := by
  refine ⟨op_sub, ?_⟩
  intro P α s H x y va vb d Q hs hx hy e k
  replace hx := rz_dr hs hx
  replace hy := rz_dr hs hy
  generalize Mini.rz s x = x' at *
  generalize Mini.rz s y = y' at *
  cases x' <;> cases y' <;> simp [Mini.opSub] at e
  subst e
  simp [DrH, Dr] at hx hy
  subst hx; subst hy
  exact ⟨_, _, rfl, rfl, now k hs (by simp [Dr])⟩
theorem sem_div : Sem2 X (binaryOp .FloorDiv) Mini.opDiv (rI CDiv fun i j => .int (i / j)) := by
  refine ⟨op_fdiv, ?_⟩
  intro P α s H x y va vb d Q hs hx hy e k
  replace hx := rz_dr hs hx
  replace hy := rz_dr hs hy
  generalize Mini.rz s x = x' at *
  generalize Mini.rz s y = y' at *
  cases x' <;> cases y' <;> simp [Mini.opDiv] at e
  obtain ⟨hc, e⟩ := e
  subst e
  simp [DrH, Dr] at hx hy
  subst hx; subst hy
  exact ⟨_, _, rfl, rfl, hc, now k hs (by simp [Dr])⟩
theorem sem_mod : Sem2 X (binaryOp .Mod) Mini.opMod (rI (fun _ j => 0 < j) fun i j => .int (i % j)) := by
  refine ⟨op_mod, ?_⟩
  intro P α s H x y va vb d Q hs hx hy e k
  replace hx := rz_dr hs hx
  replace hy := rz_dr hs hy
  generalize Mini.rz s x = x' at *
  generalize Mini.rz s y = y' at *
  cases x' <;> cases y' <;> simp [Mini.opMod] at e
  obtain ⟨hc, e⟩ := e
  subst e
  simp [DrH, Dr] at hx hy
  subst hx; subst hy
  exact ⟨_, _, rfl, rfl, hc, now k hs (by simp [Dr])⟩
def rMulS : R2 := fun x y H Q => ∃ z k, x = .str z ∧ y = .int k ∧ 0 ≤ k ∧ k ≤ 1000 ∧ z.length ≤ 1000 ∧ Q (.str ⟨((List.replicate k.toNat z.cps.toList).flatten).toArray⟩) H
theorem foldl_app (xs : List (Array Nat)) (acc : Array Nat) : (xs.foldl (· ++ ·) acc).toList = acc.toList ++ (xs.map (·.toList)).flatten := by
  induction xs generalizing acc with
  | nil => simp
  | cons x xs ih => simp [ih]
theorem op_mul_str : OpR X (binaryOp .Mult) rMulS := by
  intro pins s σ H x y v u Q I rx ry h
  obtain ⟨z, k, rfl, rfl, h0, h1, h2, q⟩ := h
  obtain ⟨t, rfl⟩ := rx
  obtain ⟨t', rfl⟩ := ry
  refine PySem.P.mul_str ?_ ?_ ?_ ?_
  · simp
    omega
  · intro hk _
    have hz : (z.length : Int) ≤ 1000 := by omega
    have : (1000 : Int) ≤ (2 ^ 63 - 1) / k := by
      rw [Int.le_ediv_iff_mul_le (by omega)]
      omega
    omega
  · intro hk _
    have : z.length * k.toNat ≤ 1000 * 1000 := Nat.mul_le_mul h2 (by omega)
    show decide (z.length * k.toNat > sizeLine) = false
    rw [sizeLine_eq]
    simp
    omega
  · split
    · rename_i hk
      have : k = 0 := by omega
      subst this
      exact ⟨by decide, ⟨.str Str.empty, H, I.tok _, ⟨_, rfl⟩, by simpa [Str.empty] using q⟩⟩
    · rename_i hk
      have e : (⟨((List.replicate k.toNat z.cps.toList).flatten).toArray⟩ : Str) = ⟨(List.replicate k.toNat z.cps).foldl (· ++ ·) #[]⟩ := by
        congr 1
        apply Array.toList_inj.mp
        rw [foldl_app]
        simp
      split
      · rename_i hc
        have e2 : (⟨((List.replicate k.toNat z.cps.toList).flatten).toArray⟩ : Str) = z := by
          rw [Bool.or_eq_true] at hc
          rcases hc with hc | hc
          · have : k = 1 := by simpa using hc
            subst this
            cases z; simp
          · have hz : z.cps = #[] := by
              have : z.length = 0 := by simpa using hc
              exact Array.eq_empty_of_size_eq_zero this
            cases z; simp at hz; subst hz; simp
        rw [e2] at q
        exact ⟨.str z, H, I, ⟨t, rfl⟩, q⟩
      · rw [e] at q
        refine ⟨?_, ⟨.str _, H, I.tok _, ⟨_, rfl⟩, q⟩⟩
        have hl : ((⟨(List.replicate k.toNat z.cps).foldl (· ++ ·) #[]⟩ : Str)).length ≤ 1000 * 1000 := by
          rw [← e]
          show (((List.replicate k.toNat z.cps.toList).flatten).toArray).size ≤ _
          simp
          exact Nat.mul_le_mul (show k.toNat ≤ 1000 by omega) h2
        exact Nat.le_trans hl (by rw [sizeLine_eq]; decide)
theorem sem_mul : Sem2 X (binaryOp .Mult) Mini.opMul (orR (rI CMul fun i j => .int (i * j)) (orR rMulS rRep)) := by
  refine ⟨op_mul.or (op_mul_str.or op_rep), ?_⟩
  intro P α s H x y va vb d Q hs hx hy e k
  replace hx := rz_dr hs hx
  replace hy := rz_dr hs hy
  generalize Mini.rz s x = x' at *
  generalize Mini.rz s y = y' at *
  cases x' <;> cases y' <;> simp [Mini.opMul] at e
  · obtain ⟨hc, e⟩ := e
    subst e
    simp [DrH, Dr] at hx hy
    subst hx; subst hy
    exact .inl ⟨_, _, rfl, rfl, hc, now k hs (by simp [Dr])⟩
  · obtain ⟨⟨hc1, hc2, hc3⟩, e⟩ := e
    subst e
    simp [DrH, Dr] at hx hy
    subst hx; subst hy
    exact .inr (.inl ⟨_, _, rfl, rfl, hc1, hc2, hc3, now k hs (by simp [Dr])⟩)
  · obtain ⟨⟨hc1, hc2, hc3⟩, e⟩ := e
    subst e
    obtain ⟨a, xs, rfl, h1, h2⟩ := hx
    simp [DrH, Dr] at hy
    subst hy
    exact .inr (.inr ⟨a, _, xs, rfl, rfl, h1, by omega, hc2, sl (by rw [← h2.len]; exact hc3), fun p hp => new_lst hs hp (h2.rep _) k⟩)
theorem sem_cmI {f : Value → Value → Sem Value} {p : Int → Int → Bool} (h : OpR X f (rI0 fun i j => .bl (p i j))) : Sem2 X f (Mini.cmI p) (rI0 fun i j => .bl (p i j)) := by
  refine ⟨h, ?_⟩
  intro P α s H x y va vb d Q hs hx hy e k
  replace hx := rz_dr hs hx
  replace hy := rz_dr hs hy
  generalize Mini.rz s x = x' at *
  generalize Mini.rz s y = y' at *
  cases x' <;> cases y' <;> simp [Mini.cmI] at e
  subst e
  simp [DrH, Dr] at hx hy
  subst hx; subst hy
  exact ⟨_, _, rfl, rfl, now k hs (by simp [Dr])⟩
theorem sem_lt : Sem2 X (compareOp .Lt) Mini.opLt (rI0 fun i j => .bl (decide (i < j))) := sem_cmI op_lt
theorem sem_le : Sem2 X (compareOp .LtE) Mini.opLe (rI0 fun i j => .bl (decide (i ≤ j))) := sem_cmI op_le
theorem sem_gt : Sem2 X (compareOp .Gt) Mini.opGt (rI0 fun i j => .bl (decide (j < i))) := sem_cmI op_gt
theorem sem_ge : Sem2 X (compareOp .GtE) Mini.opGe (rI0 fun i j => .bl (decide (j ≤ i))) := sem_cmI op_ge

/-! ### == -/
mutual
def toPy : Mini.D → PyData
  | .non => .none
  | .bl b => .bool b
  | .int i => .int i
  | .str s => .str ⟨s.toArray⟩
  | .tup ds => .tuple (toPyL ds)
  | .lst ds => .list (toPyL ds)
  | _ => .none
def toPyL : List Mini.D → List PyData
  | [] => []
  | d :: ds => toPy d :: toPyL ds
end
mutual
theorem toPy_lay : ∀ (d : Mini.D), Mini.plain d = true → (toPy d).canLay0 = true
  | .non, _ => by simp [toPy, PyData.canLay0]
  | .bl _, _ => by simp [toPy, PyData.canLay0]
  | .int _, _ => by simp [toPy, PyData.canLay0]
  | .str z, h => by
    simp only [toPy, PyData.canLay0, PyData.strOk]
    simp [Mini.plain] at h
    simpa using h
  | .tup ds, h => by
    simp only [toPy, PyData.canLay0]
    exact toPy_layL ds (by simpa [Mini.plain] using h)
  | .lst ds, h => by
    simp only [toPy, PyData.canLay0]
    exact toPy_layL ds (by simpa [Mini.plain] using h)
  | .scr _, h => by simp [Mini.plain] at h
  | .own _, h => by simp [Mini.plain] at h
  | .dic _, h => by simp [Mini.plain] at h
theorem toPy_layL : ∀ (d : List Mini.D), Mini.plainL d = true → PyData.canLayAll0 (toPyL d) = true
  | [], _ => by simp [toPyL, PyData.canLayAll0]
  | d :: ds, h => by
    simp only [toPyL, PyData.canLayAll0]
    have h' : Mini.plain d = true ∧ Mini.plainL ds = true := by simpa [Mini.plainL] using h
    rw [toPy_lay d h'.1, toPy_layL ds h'.2]
    rfl
end
mutual
theorem toPy_dep : ∀ (d : Mini.D), (toPy d).depth ≤ Mini.dep d
  | .non => by simp [toPy, PyData.depth]
  | .bl _ => by simp [toPy, PyData.depth]
  | .int _ => by simp [toPy, PyData.depth]
  | .str z => by simp [toPy, PyData.depth]
  | .tup ds => by
    simp only [toPy, PyData.depth, Mini.dep]
    exact Nat.succ_le_succ (toPy_depL ds)
  | .lst ds => by
    simp only [toPy, PyData.depth, Mini.dep]
    exact Nat.succ_le_succ (toPy_depL ds)
  | .scr _ => by simp [toPy, PyData.depth]
  | .own _ => by simp [toPy, PyData.depth]
  | .dic _ => by simp [toPy, PyData.depth]
theorem toPy_depL : ∀ (d : List Mini.D), PyData.depthAll (toPyL d) ≤ Mini.depL d
  | [] => by simp [toPyL, PyData.depthAll]
  | d :: ds => by
    simp only [toPyL, PyData.depthAll, Mini.depL]
    have h1 := toPy_dep d
    have h2 := toPy_depL ds
    omega
end
theorem str_beq (a b : List Nat) : ((⟨a.toArray⟩ : Str) == ⟨b.toArray⟩) = (a == b) := by
  rw [Bool.eq_iff_iff]
  simp
mutual
theorem toPy_eqv : ∀ (d e : Mini.D), Mini.plain d = true → Mini.plain e = true → PyData.eqv (toPy d) (toPy e) = Mini.deq d e
  | d, e, hd, he => by
    cases d <;> simp [Mini.plain] at hd <;> cases e <;> simp [Mini.plain] at he <;> simp only [toPy, PyData.eqv, Mini.deq]
    · exact str_beq _ _
    · exact toPy_eqvL _ _ (by simpa using hd) (by simpa using he)
    · exact toPy_eqvL _ _ (by simpa using hd) (by simpa using he)
theorem toPy_eqvL : ∀ (d e : List Mini.D), Mini.plainL d = true → Mini.plainL e = true → PyData.eqvAll (toPyL d) (toPyL e) = Mini.deqL d e
  | [], [], _, _ => by simp [toPyL, PyData.eqvAll, Mini.deqL]
  | [], _ :: _, _, _ => by simp [toPyL, PyData.eqvAll, Mini.deqL]
  | _ :: _, [], _, _ => by simp [toPyL, PyData.eqvAll, Mini.deqL]
  | d :: ds, e :: es, hd, he => by
    have h1 : Mini.plain d = true ∧ Mini.plainL ds = true := by simpa [Mini.plainL] using hd
    have h2 : Mini.plain e = true ∧ Mini.plainL es = true := by simpa [Mini.plainL] using he
    simp only [toPyL, PyData.eqvAll, Mini.deqL]
    rw [toPy_eqv d e h1.1 h2.1, toPy_eqvL ds es h1.2 h2.2]
end
mutual
theorem dr_dp {K : PySem.W.Frag} {G H : Hp} {α : List Addr} (x : Ext G H) : ∀ (d : Mini.D) (v : V), Mini.plain d = true → Dr K G α d v → Dp K H v (toPy d)
  | .non, v, _, h => by simp [Dr] at h; subst h; exact .non
  | .bl _, v, _, h => by simp [Dr] at h; subst h; exact .bl _
  | .int _, v, _, h => by simp [Dr] at h; subst h; exact .int _
  | .str _, v, _, h => by simp [Dr] at h; subst h; exact .str _
  | .tup ds, v, p, h => by
    rw [Dr] at h
    obtain ⟨a, xs, rfl, h1, h2⟩ := h
    exact .tup (.of (x _ _ h1)) (dr_dpL x ds xs (by simpa [Mini.plain] using p) h2)
  | .lst ds, v, p, h => by
    rw [Dr] at h
    obtain ⟨a, xs, rfl, h1, h2⟩ := h
    exact .lst (.of (x _ _ h1)) (dr_dpL x ds xs (by simpa [Mini.plain] using p) h2)
  | .scr _, _, h, _ => by simp [Mini.plain] at h
  | .own _, _, h, _ => by simp [Mini.plain] at h
  | .dic _, _, h, _ => by simp [Mini.plain] at h
theorem dr_dpL {K : PySem.W.Frag} {G H : Hp} {α : List Addr} (x : Ext G H) : ∀ (d : List Mini.D) (v : List V), Mini.plainL d = true → DrL K G α d v → DpAll K H v (toPyL d)
  | [], [], _, _ => .nil
  | [], _ :: _, _, h => by simp [DrL] at h
  | _ :: _, [], _, h => by simp [DrL] at h
  | d :: ds, v :: vs, p, h => by
    have h1 : Mini.plain d = true ∧ Mini.plainL ds = true := by simpa [Mini.plainL] using p
    rw [DrL] at h
    exact .cons (dr_dp x d v h1.1 h.1) (dr_dpL x ds vs h1.2 h.2)
end
theorem drH_dp {K : PySem.W.Frag} {H G : Hp} {α : List Addr} (x : Ext G H) {d : Mini.D} {v : V} (p : Mini.plain d = true) (h : DrH K H G α d v) : Dp K H v (toPy d) := by
  cases d with
  | tup ds =>
    obtain ⟨a, xs, rfl, h1, h2⟩ := h
    exact .tup (.of h1) (dr_dpL x ds xs (by simpa [Mini.plain] using p) h2)
  | lst ds =>
    obtain ⟨a, xs, rfl, h1, h2⟩ := h
    exact .lst (.of h1) (dr_dpL x ds xs (by simpa [Mini.plain] using p) h2)
  | scr _ => simp [Mini.plain] at p
  | dic _ => simp [Mini.plain] at p
  | _ => exact dr_dp (α := α) x _ _ p h
theorem eq_ok {K : PySem.W.Frag} {P α : List Addr} {s : Mini.Sto} {H : Hp} {x y : Mini.D} {va vb : V} {b : Bool} (hs : StR K P α s H) (hx : Dr K (imm H P α) α x va) (hy : Dr K (imm H P α) α y vb) (e : Mini.eqB (Mini.rz s x) (Mini.rz s y) = some b) :
    (scal va vb = true ∧ decide (va = vb) = b) ∨ ∃ d d', Dp K H va d ∧ Dp K H vb d' ∧ SeqAt.shaped d = true ∧ SeqAt.shaped d' = true ∧ PyData.eqv d d' = b := by
  replace hx := rz_dr hs hx
  replace hy := rz_dr hs hy
  generalize Mini.rz s x = x' at *
  generalize Mini.rz s y = y' at *
  unfold Mini.eqB at e
  split at e
  · simp [DrH, Dr] at hx hy
    subst hx; subst hy
    exact .inl ⟨rfl, by simpa using e⟩
  · simp [DrH, Dr] at hx hy
    subst hx; subst hy
    exact .inl ⟨rfl, by simpa using e⟩
  · simp [DrH, Dr] at hx hy
    subst hx; subst hy
    exact .inl ⟨rfl, by simpa using e⟩
  · split at e
    · rename_i hc
      obtain ⟨p1, p2, p3, p4⟩ := hc
      have sh : ∀ d : Mini.D, Mini.plain d = true → Mini.dep d ≤ 60 → SeqAt.shaped (toPy d) = true := fun d hp hd => by
        unfold SeqAt.shaped
        have := toPy_dep d
        rw [toPy_lay d hp, Bool.true_and]
        exact decide_eq_true (by omega)
      exact .inr ⟨_, _, drH_dp (imm_sub _ _ _) p1 hx, drH_dp (imm_sub _ _ _) p2 hy, sh _ p1 p3, sh _ p2 p4, by rw [toPy_eqv _ _ p1 p2]; simpa using e⟩
    · cases e
theorem sem_eq (hu : X.A.units + 64 < cLine) : Sem2 X (compareOp .Eq) Mini.opEq (orR rEq (rEqD X.K)) := by
  refine ⟨op_eq.or (op_eqD hu), ?_⟩
  intro P α s H x y va vb d Q hs hx hy e k
  unfold Mini.opEq at e
  obtain ⟨b, hb, rfl⟩ := Option.map_eq_some_iff.mp e
  rcases eq_ok hs hx hy hb with ⟨h1, h2⟩ | ⟨d, d', h1, h2, h3, h4, h5⟩
  · exact .inl ⟨h1, now k hs (by rw [h2]; simp [Dr])⟩
  · exact .inr ⟨d, d', h1, h2, h3, h4, now k hs (by rw [h5]; simp [Dr])⟩
theorem sem_ne (hu : X.A.units + 64 < cLine) : Sem2 X (compareOp .NotEq) Mini.opNe (orR rNe (rNeD X.K)) := by
  refine ⟨op_ne.or (op_neD hu), ?_⟩
  intro P α s H x y va vb d Q hs hx hy e k
  unfold Mini.opNe at e
  obtain ⟨b, hb, rfl⟩ := Option.map_eq_some_iff.mp e
  rcases eq_ok hs hx hy hb with ⟨h1, h2⟩ | ⟨d, d', h1, h2, h3, h4, h5⟩
  · exact .inl ⟨h1, now k hs (by rw [h2]; simp [Dr])⟩
  · exact .inr ⟨d, d', h1, h2, h3, h4, now k hs (by rw [h5]; simp [Dr])⟩
end
end Snd
end
section
namespace Snd
open PySem L2
section
variable {X : Cx}
/-! ### in -/
def rInS : R2 := fun x y H Q => ∃ (c : Nat) (z : Str), x = .str ⟨#[c]⟩ ∧ y = .str z ∧ Q (.bl (decide (c ∈ z.cps.toList))) H
def rNinS : R2 := fun x y H Q => ∃ (c : Nat) (z : Str), x = .str ⟨#[c]⟩ ∧ y = .str z ∧ Q (.bl (!decide (c ∈ z.cps.toList))) H
def rInD : R2 := fun y x H Q => ∃ a o, x = .ref a ∧ DGet H a y o ∧ Q (.bl o.isSome) H
def rNinD : R2 := fun y x H Q => ∃ a o, x = .ref a ∧ DGet H a y o ∧ Q (.bl (!o.isSome)) H
theorem op_inD (hu : X.A.units + 64 < cLine) : OpR X (compareOp .In) rInD := by
  intro pins s σ H y x v u Q I ry rx h
  obtain ⟨a, o, rfl, g, q⟩ := h
  obtain rfl : u = Value.ref a := rx
  exact d_in (by omega) I g ry fun s3 I3 => ⟨.bl o.isSome, H, I3, rfl, q⟩
theorem op_ninD (hu : X.A.units + 64 < cLine) : OpR X (compareOp .NotIn) rNinD := by
  intro pins s σ H y x v u Q I ry rx h
  obtain ⟨a, o, rfl, g, q⟩ := h
  obtain rfl : u = Value.ref a := rx
  exact d_notIn (by omega) I g ry fun s3 I3 => ⟨.bl (!o.isSome), H, I3, rfl, q⟩
theorem flat_v {K : PySem.W.Frag} {G : Hp} {α : List Addr} {d : Mini.D} {v : V} (h : Dr K G α d v) (f : Mini.flat d = true) : flatV v = true := by
  cases d <;> simp [Mini.flat] at f <;> simp [Dr] at h <;> subst h <;> rfl
theorem flat_eq {K : PySem.W.Frag} {G : Hp} {α β : List Addr} {d e : Mini.D} {v u : V} (h : Dr K G α d v) (h' : Dr K G β e u) (f : Mini.flat d = true) (f' : Mini.flat e = true) : eqV v u = Mini.deq d e := by
  cases d <;> simp [Mini.flat] at f <;> simp [Dr] at h <;> subst h <;> cases e <;> simp [Mini.flat] at f' <;> simp [Dr] at h' <;> subst h' <;> simp only [eqV, Mini.deq]
  exact str_beq _ _
theorem flat_all {K : PySem.W.Frag} {G : Hp} {α β : List Addr} : ∀ {ds : List Mini.D} {vs : List V} {e : Mini.D} {u : V}, DrL K G α ds vs → Dr K G β e u → ds.all Mini.flat = true → Mini.flat e = true → vs.all flatV = true ∧ inV u vs = Mini.inD e ds
  | [], [], _, _, _, _, _, _ => by simp [inV, Mini.inD]
  | [], _ :: _, _, _, h, _, _, _ => by simp [DrL] at h
  | _ :: _, [], _, _, h, _, _, _ => by simp [DrL] at h
  | d :: ds, v :: vs, e, u, h, h', f, f' => by
    rw [DrL] at h
    have f2 : Mini.flat d = true ∧ ds.all Mini.flat = true := by simpa using f
    obtain ⟨i1, i2⟩ := flat_all h.2 h' f2.2 f'
    refine ⟨by rw [List.all_cons, flat_v h.1 f2.1, i1]; rfl, ?_⟩
    unfold inV Mini.inD at i2 ⊢
    rw [List.any_cons, List.any_cons, i2, flat_eq h.1 h' f2.1 f']
theorem valDI (ks : List Int) (i : Int) : (valV (ks.map fun k => ((Sum.inl k : Key), V.bl true)) (Sum.inl i)).isSome = decide (i ∈ ks) := by
  rw [← valV_any]
  rw [Bool.eq_iff_iff]
  simp [List.any_eq_true]
theorem valDT (ks : List (List Int)) (i : List Int) : (valV (ks.map fun k => ((k.map Sum.inl : List Key), V.bl true)) (i.map Sum.inl)).isSome = decide (i ∈ ks) := by
  rw [← valV_any]
  rw [Bool.eq_iff_iff]
  have inj : ∀ a b : List Int, (a.map Sum.inl : List Key) = b.map Sum.inl ↔ a = b := fun a b => by
    constructor
    · intro h
      exact (List.map_inj_right fun _ _ e => Sum.inl.inj e).mp h
    · rintro rfl; rfl
  simp [List.any_eq_true, inj]
theorem kV_ints (js : List Int) : (js.map (Sum.inl : Int → Key)).map kV = js.map V.int := by
  induction js with
  | nil => rfl
  | cons j js ih => simp only [List.map_cons, ih]; rfl
theorem rz_flat {K : PySem.W.Frag} {H G : Hp} {α : List Addr} {d : Mini.D} {v : V} (h : DrH K H G α d v) (f : Mini.flat d = true) : Dr K G α d v := by
  cases d <;> simp [Mini.flat] at f <;> exact h
inductive InOk (K : PySem.W.Frag) (H : Hp) (va vb : V) (b : Bool) : Prop where
  | sg (c : Nat) (z : Str) (h1 : va = .str ⟨#[c]⟩) (h2 : vb = .str z) (h3 : decide (c ∈ z.cps.toList) = b)
  | sq (p : Addr) (xs : List V) (h1 : vb = .ref p) (h2 : SqL K H p xs ∨ SqT K H p xs) (h3 : flatV va = true) (h4 : xs.all flatV = true) (h5 : inV va xs = b)
  | di (a : Addr) (o : Option V) (h1 : vb = .ref a) (h2 : DGet H a va o) (h3 : o.isSome = b)
theorem in_ok {K : PySem.W.Frag} {P α : List Addr} {s : Mini.Sto} {H : Hp} {x y : Mini.D} {va vb : V} {b : Bool} (hs : StR K P α s H) (hx : Dr K (imm H P α) α x va) (hy : Dr K (imm H P α) α y vb) (e : Mini.opInB s (Mini.rz s x) (Mini.rz s y) = some b) :
    InOk K H va vb b := by
  have hy0 := hy
  have ey : ∀ k, Mini.rz s y = .own k → y = .own k := fun k q => by
    cases y with
    | own j =>
      simp only [Mini.rz] at q
      split at q
      · cases q
      · exact q
    | _ => simp [Mini.rz] at q
  replace hx := rz_dr hs hx
  replace hy := rz_dr hs hy
  generalize hrx : Mini.rz s x = x' at *
  generalize hry : Mini.rz s y = y' at *
  unfold Mini.opInB at e
  split at e
  · rename_i c z
    simp [DrH, Dr] at hx hy
    subst hx; subst hy
    exact .sg c _ rfl rfl (by simpa using e)
  · split at e
    · rename_i hc
      rw [Bool.and_eq_true] at hc
      obtain ⟨p, xs, rfl, h1, h2⟩ := hy
      obtain ⟨i1, i2⟩ := flat_all h2 (rz_flat hx hc.1) hc.2 hc.1
      exact .sq p xs rfl (.inl (.of h1)) (flat_v (rz_flat hx hc.1) hc.1) i1 (by rw [i2]; simpa using e)
    · cases e
  · split at e
    · rename_i hc
      rw [Bool.and_eq_true] at hc
      obtain ⟨p, xs, rfl, h1, h2⟩ := hy
      obtain ⟨i1, i2⟩ := flat_all h2 (rz_flat hx hc.1) hc.2 hc.1
      exact .sq p xs rfl (.inr (.of h1)) (flat_v (rz_flat hx hc.1) hc.1) i1 (by rw [i2]; simpa using e)
    · cases e
  · rename_i i k
    split at e
    · rename_i ks hk
      obtain ⟨a, h1, rfl, h2⟩ := own_ob hs (by rw [← ey k rfl]; exact hy0) hk
      simp [DrH, Dr] at hx
      subst hx
      rw [ObR] at h2
      exact .di a _ rfl (DGet.k (k := Sum.inl i) h2) (by rw [valDI]; simpa using e)
    · cases e
  · rename_i ds k
    split at e
    · rename_i ks js hk hj
      obtain ⟨a, h1, rfl, h2⟩ := own_ob hs (by rw [← ey k rfl]; exact hy0) hk
      obtain ⟨p, xs, rfl, h3, h4⟩ := hx
      have := h4.zints hj
      subst this
      rw [ObR] at h2
      exact .di a _ rfl (DGet.t (k := js.map Sum.inl) h2 (by rw [kV_ints]; exact h3)) (by rw [valDT]; simpa using e)
    · cases e
  · cases e
theorem sem_in (hu : X.A.units + 64 < cLine) : Sem2 X (compareOp .In) Mini.opIn (orR rInS (orR (rIn X.K false) rInD)) := by
  refine ⟨op_in_sign.or (op_in_seq.or (op_inD hu)), ?_⟩
  intro P α s H x y va vb d Q hs hx hy e k
  unfold Mini.opIn at e
  obtain ⟨b, hb, rfl⟩ := Option.map_eq_some_iff.mp e
  cases in_ok hs hx hy hb with
  | sg c z h1 h2 h3 => exact .inl ⟨c, z, h1, h2, now k hs (by rw [h3]; simp [Dr])⟩
  | sq p xs h1 h2 h3 h4 h5 => exact .inr (.inl ⟨p, xs, h1, h2, h3, h4, now k hs (by rw [h5]; simp [Dr])⟩)
  | di a o h1 h2 h3 => exact .inr (.inr ⟨a, o, h1, h2, now k hs (by rw [h3]; simp [Dr])⟩)
theorem sem_nin (hu : X.A.units + 64 < cLine) : Sem2 X (compareOp .NotIn) Mini.opNotIn (orR rNinS (orR (rIn X.K true) rNinD)) := by
  refine ⟨op_notIn_sign.or (op_notIn_seq.or (op_ninD hu)), ?_⟩
  intro P α s H x y va vb d Q hs hx hy e k
  unfold Mini.opNotIn at e
  obtain ⟨b, hb, rfl⟩ := Option.map_eq_some_iff.mp e
  cases in_ok hs hx hy hb with
  | sg c z h1 h2 h3 => exact .inl ⟨c, z, h1, h2, now k hs (by rw [h3]; simp [Dr])⟩
  | sq p xs h1 h2 h3 h4 h5 => exact .inr (.inl ⟨p, xs, h1, h2, h3, h4, now k hs (by simp [h5, Dr])⟩)
  | di a o h1 h2 h3 => exact .inr (.inr ⟨a, o, h1, h2, now k hs (by rw [h3]; simp [Dr])⟩)
/-! ### is -/
def rIsN : R2 := fun x y H Q => y = .non ∧ Q (.bl (decide (x = .non))) H
def rNotN : R2 := fun x y H Q => y = .non ∧ Q (.bl (!decide (x = .non))) H
theorem dr_non {K : PySem.W.Frag} {H G : Hp} {α : List Addr} {d : Mini.D} {v : V} (h : DrH K H G α d v) (n : d ≠ .non) : v ≠ .non := by
  cases d with
  | non => exact absurd rfl n
  | bl => simp [DrH, Dr] at h; subst h; simp
  | int => simp [DrH, Dr] at h; subst h; simp
  | str => simp [DrH, Dr] at h; subst h; simp
  | tup => obtain ⟨a, xs, rfl, _⟩ := h; simp
  | lst => obtain ⟨a, xs, rfl, _⟩ := h; simp
  | scr => obtain ⟨a, rfl, _⟩ := h; simp
  | dic => obtain ⟨a, xs, rfl, _⟩ := h; simp
  | own => simp [DrH, Dr] at h; obtain ⟨a, _, rfl⟩ := h; simp
theorem is_ok {K : PySem.W.Frag} {H G : Hp} {α : List Addr} {x y : Mini.D} {va vb : V} {b : Bool} (hx : DrH K H G α x va) (hy : DrH K H G α y vb) (e : Mini.opIsB x y = some b) :
    (vb = .non ∧ decide (va = .non) = b) ∨ ∃ c c', va = .bl c ∧ vb = .bl c' ∧ decide (c = c') = b := by
  unfold Mini.opIsB at e
  split at e
  · simp [DrH, Dr] at hx hy
    exact .inl ⟨hy, by rw [hx]; simpa using e⟩
  · rename_i n
    simp [DrH, Dr] at hy
    have := dr_non hx (fun z => n z)
    exact .inl ⟨hy, by rw [decide_eq_false this]; simpa using e⟩
  · simp [DrH, Dr] at hx hy
    exact .inr ⟨_, _, hx, hy, by rw [← Option.some.inj e]; exact (Bool.beq_eq_decide_eq _ _).symm⟩
  · cases e
theorem sem_is : Sem2 X (compareOp .Is) Mini.opIs (orR rIsN rIsB) := by
  refine ⟨op_isN.or op_isBl, ?_⟩
  intro P α s H x y va vb d Q hs hx hy e k
  unfold Mini.opIs at e
  obtain ⟨b, hb, rfl⟩ := Option.map_eq_some_iff.mp e
  rcases is_ok (rz_dr hs hx) (rz_dr hs hy) hb with ⟨h1, h2⟩ | ⟨c, c', h1, h2, h3⟩
  · exact .inl ⟨h1, now k hs (by rw [h2]; simp [Dr])⟩
  · exact .inr ⟨c, c', h1, h2, now k hs (by rw [h3]; simp [Dr])⟩
theorem sem_isnt : Sem2 X (compareOp .IsNot) Mini.opIsNot (orR rNotN rNotB) := by
  refine ⟨op_notN.or op_notBl, ?_⟩
  intro P α s H x y va vb d Q hs hx hy e k
  unfold Mini.opIsNot at e
  obtain ⟨b, hb, rfl⟩ := Option.map_eq_some_iff.mp e
  rcases is_ok (rz_dr hs hx) (rz_dr hs hy) hb with ⟨h1, h2⟩ | ⟨c, c', h1, h2, h3⟩
  · exact .inl ⟨h1, now k hs (by rw [h2]; simp [Dr])⟩
  · exact .inr ⟨c, c', h1, h2, now k hs (by rw [h3]; simp [Dr])⟩
/-! ### an item, a slice -/
theorem pos_ix (n : Nat) (i : Int) : Mini.pos n i = ixN n i := rfl
theorem six_ix (n d : Nat) (o : Option Int) : Mini.six n d o = HT.sIx n d o := by cases o <;> rfl
theorem ix_ok {P α : List Addr} {s : Mini.Sto} {H : Hp} {x y d : Mini.D} {va vb : V} {Q : VK} (hs : StR X.K P α s H) (hx : Dr X.K (imm H P α) α x va) (hy : Dr X.K (imm H P α) α y vb) (e : Mini.opIx s (Mini.rz s x) (Mini.rz s y) = some d) (k : Then X.K P α s H d Q) :
    rIx X.K va vb H Q := by
  replace hx := rz_dr hs hx
  replace hy := rz_dr hs hy
  generalize Mini.rz s x = x' at *
  generalize Mini.rz s y = y' at *
  unfold Mini.opIx at e
  split at e
  · rename_i ds i
    obtain ⟨p, xs, rfl, h1, h2⟩ := hx
    simp [DrH, Dr] at hy
    subst hy
    obtain ⟨j, hj, hd⟩ := Option.bind_eq_some_iff.mp e
    obtain ⟨v, hv, hdv⟩ := h2.at hd
    refine .inl ⟨p, xs, i, v, rfl, rfl, .of h1, ?_, now k hs (Dr.nil_any hdv)⟩
    unfold atI
    rw [← h2.len, ← pos_ix, hj]
    exact hv
  · rename_i ds i
    obtain ⟨p, xs, rfl, h1, h2⟩ := hx
    simp [DrH, Dr] at hy
    subst hy
    obtain ⟨j, hj, hd⟩ := Option.bind_eq_some_iff.mp e
    obtain ⟨v, hv, hdv⟩ := h2.at hd
    refine .inr (.inl ⟨p, xs, i, v, rfl, rfl, .of h1, ?_, now k hs hdv⟩)
    unfold atI
    rw [← h2.len, ← pos_ix, hj]
    exact hv
  · rename_i z i
    split at e
    · rename_i hl
      simp [DrH, Dr] at hx hy
      subst hx; subst hy
      obtain ⟨c, hc, rfl⟩ := Option.map_eq_some_iff.mp e
      obtain ⟨j, hj, hd⟩ := Option.bind_eq_some_iff.mp hc
      refine .inr (.inr ⟨_, i, c, rfl, rfl, sl hl, ?_, now k hs (by simp [Dr])⟩)
      unfold atI
      simp only [List.toList_toArray]
      rw [← pos_ix, hj]
      exact hd
    · cases e
  · rename_i ns i
    obtain ⟨p, rfl, h1⟩ := hx
    simp [DrH, Dr] at hy
    subst hy
    obtain ⟨c, hc, rfl⟩ := Option.map_eq_some_iff.mp e
    obtain ⟨j, hj, hd⟩ := Option.bind_eq_some_iff.mp hc
    refine .inl ⟨p, _, i, .int c, rfl, rfl, h1, ?_, now k hs (by simp [Dr])⟩
    unfold atI
    rw [List.length_map, ← pos_ix, hj]
    show (ns.map V.int)[j]? = _
    rw [List.getElem?_map, hd]
    rfl
  · cases e
variable {E : XC} {a b : Expr} {pos : Pos}
theorem pm_ix {ma mb : Mini.M} (ha : PE X a (tM X.K E ma)) (hb : PE X b (tM X.K E mb)) (hs : PlainIx b := by exact fun _ _ => rfl) : PE X (.Subscript a b pos) (tM X.K E (Mini.mOp Mini.opIx ma mb)) := (pe_ix ix_seq ha hb hs).to
  fun σ H Q ⟨P, α, e, s, hS, q⟩ => ⟨P, α, e, s, hS, (Post.unbind q).imp fun d s1 α1 H1 g1 t1 q1 v hv => ⟨P, α1, e, s1, hS.gr g1 t1, (Post.unbind q1).imp fun d2 s2 α2 H2 g2 t2 q2 u hu => by
    obtain ⟨z, hz, q2⟩ := q2.unof
    exact ix_ok t2 (g2.dr hv) hu hz fun w H3 g3 t3 hw => q2 α2 H3 g3 t3 w hw⟩⟩
theorem om_n : L2.PO X none (tO X.K E Mini.poN) := po_none.to fun σ H Q ⟨P, α, e, s, hS, q⟩ => q.here hS.st
theorem om_s {e : Expr} {m : Mini.M} (h : PE X e (tM X.K E m)) : L2.PO X (some e) (tO X.K E (Mini.poS m)) := (po_some h).to fun σ H Q ⟨P, α, e, s, hS, q⟩ => ⟨P, α, e, s, hS, (Post.unbind q).imp fun d s1 α1 H1 g1 t1 q1 v hv => by
  cases d <;> simp only at q1 <;> first | exact q1.elim | skip
  rw [Dr] at hv
  exact ⟨_, hv, q1.here t1⟩⟩
theorem rz_tup {s : Mini.Sto} {d : Mini.D} {ds : List Mini.D} (h : Mini.rz s d = .tup ds) : d = .tup ds := by
  cases d with
  | own j =>
    simp only [Mini.rz] at h
    split at h <;> cases h
  | tup => exact h
  | _ => cases h
def rSl (K : PySem.W.Frag) : V → Option Int → Option Int → Hp → VK → Prop := fun x lo hi H Q => rSlL K x lo hi H Q ∨ (rSlA K x lo hi H Q ∨ rSlS x lo hi H Q)
theorem sl_any : SlR X (rSl X.K) := sl_list.or (sl_tupA.or sl_str)
theorem cut_drL {K : PySem.W.Frag} {G : Hp} {α : List Addr} {ds : List Mini.D} {xs : List V} (h : DrL K G α ds xs) (lo hi : Option Int) : DrL K G α (Mini.cut ds lo hi) (cutV xs lo hi) := by
  unfold Mini.cut cutV
  rw [six_ix, six_ix, h.len]
  exact (h.drop _).take _
theorem pm_sl {p2 : Pos} {ma : Mini.M} {lo hi : Option Expr} {ml mh : Mini.PO} (ha : PE X a (tM X.K E ma)) (hl : L2.PO X lo (tO X.K E ml)) (hh : L2.PO X hi (tO X.K E mh)) : PE X (.Subscript a (.Slice lo hi none p2) pos) (tM X.K E (Mini.mSl ma ml mh)) := (pe_slice sl_any ha hl hh).to
  fun σ H Q ⟨P, α, e, s, hS, q⟩ => ⟨P, α, e, s, hS, (Post.unbind q).imp fun d s1 α1 H1 g1 t1 q1 v hv => ⟨P, α1, e, s1, hS.gr g1 t1, (Post.unbind q1).imp fun o1 s2 α2 H2 g2 t2 q2 => ⟨P, α2, e, s2, hS.gr (g1.trans g2) t2, (Post.unbind q2).imp fun o2 s3 α3 H3 g3 t3 q3 => by
    obtain ⟨z, hz, q3⟩ := q3.unof
    have hv3 := rz_dr t3 (g3.dr (g2.dr hv))
    dsimp only at hz
    generalize hd' : Mini.rz s3 d = d' at hz hv3
    have k : Then X.K P α3 s3 H3 z Q := fun w H4 g4 t4 hw => q3 α3 H4 g4 t4 w hw
    unfold Mini.slD at hz
    split at hz
    · cases hz
      obtain ⟨p, xs, rfl, h1, h2⟩ := hv3
      exact .inl ⟨p, xs, rfl, .of h1, fun p hp => new_lst t3 hp (cut_drL h2 _ _) k⟩
    · cases hz
      obtain ⟨p, xs, rfl, h1, h2⟩ := hv3
      have hc := cut_drL h2 o1 o2
      refine .inr (.inl ⟨p, xs, rfl, .of h1, fun hw => ?_, fun hw p' hp => new_tup t3 hp hc k⟩)
      have e1 : cutV xs o1 o2 = xs := by unfold cutV; rw [hw.1, hw.2]; simp
      have e2 := rz_tup hd'
      subst e2
      have hv4 := g3.dr (g2.dr hv)
      rw [Dr] at hv4
      obtain ⟨a', xs', e', h', h''⟩ := hv4
      cases e'
      have : xs' = xs := by
        have := imm_sub _ _ _ _ _ h'
        rw [h1] at this
        cases this
        rfl
      subst this
      refine now k t3 ?_
      rw [Dr]
      exact ⟨p, xs', rfl, h', by rw [← e1]; exact hc⟩
    · split at hz
      · rename_i hl
        cases hz
        simp [DrH, Dr] at hv3
        subst hv3
        refine .inr (.inr ⟨_, rfl, sl hl, now k t3 ?_⟩)
        rw [Dr]
        congr 1
      · cases hz
    · cases hz
      obtain ⟨p, rfl, h1⟩ := hv3
      refine .inl ⟨p, _, rfl, h1, fun p hp => new_lst t3 hp ?_ k⟩
      have : cutV (List.map V.int ‹List Int›) o1 o2 = (Mini.cut ‹List Int› o1 o2).map V.int := by
        unfold cutV Mini.cut
        rw [six_ix, six_ix, List.length_map, List.map_take, List.map_drop]
      rw [this]
      exact DrL.ofInts _
    · cases hz⟩⟩⟩
end
end Snd
end
section
namespace Snd
open PySem L2
/-! ### built-ins of one argument -/
section
variable {X : Cx} {E : XC} {a : Expr} {pos p : Pos}
abbrev RC := List V → Hp → VK → Prop
structure Sem1 (X : Cx) (f : Value) (o : Mini.D → Option Mini.D) (r : RC) : Prop where
  op : CallR X f r
  ok : ∀ {P α s H x va d} {Q : VK}, StR X.K P α s H → Dr X.K (imm H P α) α x va → o (Mini.rz s x) = some d → Then X.K P α s H d Q → r [va] H Q
theorem one {f : Value} {o : Mini.D → Option Mini.D} {r : RC} {m : Mini.M} (S : Sem1 X f o r) : ∀ σ H Q, tM X.K E (Mini.mB o m) σ H Q → tCB r (tA X.K E (Mini.aCons m Mini.aNil)) σ H Q := fun σ H Q ⟨P, α, e, s, hS, q⟩ =>
  ⟨P, α, e, s, hS, by
    unfold Mini.mB at q
    unfold Mini.aCons
    replace q := Post.unbind q
    cases hm : m e s with
    | bad => rw [hm] at q; exact q.elim
    | exc c => rw [hm] at q; exact q
    | ok pr =>
      rw [hm] at q
      intro α1 H1 g1 t1 v hv
      have q1 := q α1 H1 g1 t1
      obtain ⟨z, hz, q1⟩ := q1.unof
      cases v with
      | nil => simp [DrL, Mini.aNil] at hv
      | cons v vs =>
        rw [DrL] at hv
        have : vs = [] := by
          have := hv.2
          cases vs with
          | nil => rfl
          | cons => simp [DrL, Mini.aNil] at this
        subst this
        exact S.ok t1 hv.1 hz fun w H2 g2 t2 hw => q1 α1 H2 g2 t2 w hw⟩
theorem pm_b1 {x : Str} {id : String} {o : Mini.D → Option Mini.D} {r : RC} {m : Mini.M} (S : Sem1 X (.builtin id) o r) (hg : Gl X x) (hm : X.mg x = none) (hv : bootBuiltins x = some (.builtin id)) (ha : PE X a (tM X.K E m))
    (hs : starEach [a] X.env = (false, eval a X.env) :: starEach [] X.env := by rfl) (hn : x ≠ "__name__" := by decide) (hd : (x == ("__debug__" : Str)) = false := by decide) : PE X (.Call (.Name x p) [a] [] pos) (tM X.K E (Mini.mB o m)) :=
  (pe_callB S.op hg hm hv (am_cons ha am_nil hs) hn hd hs).to (one S)
theorem pm_t1 {x : Str} {id : String} {o : Mini.D → Option Mini.D} {r : RC} {m : Mini.M} (S : Sem1 X (.type id) o r) (hg : Gl X x) (hm : X.mg x = none) (hv : bootBuiltins x = some (.type id)) (ha : PE X a (tM X.K E m))
    (hs : starEach [a] X.env = (false, eval a X.env) :: starEach [] X.env := by rfl) (hn : x ≠ "__name__" := by decide) (hd : (x == ("__debug__" : Str)) = false := by decide) : PE X (.Call (.Name x p) [a] [] pos) (tM X.K E (Mini.mB o m)) :=
  (pe_callTy S.op hg hm hv (am_cons ha am_nil hs) hn hd hs).to (one S)
def orC (r r' : RC) : RC := fun xs H Q => r xs H Q ∨ r' xs H Q
def rLen (K : PySem.W.Frag) : RC := fun xs H Q => ∃ x n, xs = [x] ∧ LenV K x H n ∧ Q (.int n) H
theorem sem_len : Sem1 X (.builtin "len") Mini.bLen (orC (rLen X.K) rLenT) := by
  refine ⟨call_len.or call_len_dT, ?_⟩
  intro P α s H x va d Q hs hx e k
  replace hx := rz_dr hs hx
  generalize Mini.rz s x = x' at *
  unfold Mini.bLen at e
  split at e
  · cases e
    obtain ⟨p, xs, rfl, h1, h2⟩ := hx
    exact .inl ⟨_, _, rfl, .inl ⟨xs, .of h1, rfl⟩, now k hs (by simp [Dr, h2.len])⟩
  · cases e
    obtain ⟨p, xs, rfl, h1, h2⟩ := hx
    exact .inl ⟨_, _, rfl, .inr ⟨xs, .of h1, rfl⟩, now k hs (by simp [Dr, h2.len])⟩
  · split at e
    · rename_i hl
      cases e
      simp [DrH, Dr] at hx
      subst hx
      exact .inl ⟨_, _, rfl, ⟨sl hl, rfl⟩, now k hs (by simp [Dr, Str.length])⟩
    · cases e
  · cases e
    obtain ⟨p, rfl, h1⟩ := hx
    exact .inl ⟨_, _, rfl, .inl ⟨_, h1, rfl⟩, now k hs (by simp [Dr])⟩
  · cases e
    obtain ⟨p, kvs, rfl, h1, h2⟩ := hx
    exact .inr ⟨p, kvs, rfl, h1, now k hs (by simp [Dr, h2])⟩
  · cases e
theorem sem_all (hc : X.calm = true) : Sem1 X (.builtin "all") Mini.bAll (rAll X.K) := by
  refine ⟨cr_all hc, ?_⟩
  intro P α s H x va d Q hs hx e k
  replace hx := rz_dr hs hx
  generalize Mini.rz s x = x' at *
  cases x' <;> simp [Mini.bAll] at e
  obtain ⟨bs, hb, rfl⟩ := e
  obtain ⟨p, xs, rfl, h1, h2⟩ := hx
  exact ⟨p, bs, rfl, .of (by rw [h1, h2.bls hb]), now k hs (by simp [Dr])⟩
theorem sem_any (hc : X.calm = true) : Sem1 X (.builtin "any") Mini.bAny (rAny X.K) := by
  refine ⟨cr_any hc, ?_⟩
  intro P α s H x va d Q hs hx e k
  replace hx := rz_dr hs hx
  generalize Mini.rz s x = x' at *
  cases x' <;> simp [Mini.bAny] at e
  obtain ⟨bs, hb, rfl⟩ := e
  obtain ⟨p, xs, rfl, h1, h2⟩ := hx
  exact ⟨p, bs, rfl, .of (by rw [h1, h2.bls hb]), now k hs (by simp [Dr])⟩
theorem sem_sum (hc : X.calm = true) : Sem1 X (.builtin "sum") Mini.bSum (rSum X.K) := by
  refine ⟨cr_sum hc, ?_⟩
  intro P α s H x va d Q hs hx e k
  replace hx := rz_dr hs hx
  generalize Mini.rz s x = x' at *
  cases x' <;> simp [Mini.bSum] at e
  obtain ⟨bs, hb, rfl⟩ := e
  obtain ⟨p, xs, rfl, h1, h2⟩ := hx
  exact ⟨p, bs, rfl, .of (by rw [h1, h2.zints hb]), now k hs (by simp [Dr])⟩
theorem maxI_uniq : ∀ (ns : List Int) (m : Int), m ∈ ns → (∀ y, y ∈ ns → y ≤ m) → Mini.maxI ns = m
  | [], m, h, _ => by simp at h
  | [x], m, h, _ => by simp at h; simp [Mini.maxI, h]
  | x :: y :: r, m, h, hm => by
    unfold Mini.maxI
    by_cases hx : m ∈ (y :: r)
    · rw [maxI_uniq (y :: r) m hx fun z hz => hm z (List.mem_cons_of_mem _ hz)]
      have := hm x List.mem_cons_self
      omega
    · have e : m = x := by
        rcases List.mem_cons.mp h with h | h
        · exact h
        · exact absurd h hx
      subst e
      have : Mini.maxI (y :: r) ∈ (y :: r) := by
        clear hx h hm
        induction r generalizing y with
        | nil => simp [Mini.maxI]
        | cons z r ih =>
          unfold Mini.maxI
          have := ih z
          rcases Int.le_total y (Mini.maxI (z :: r)) with q | q
          · rw [Int.max_eq_right q]; exact List.mem_cons_of_mem _ this
          · rw [Int.max_eq_left q]; exact List.mem_cons_self
      have := hm _ (List.mem_cons_of_mem _ this)
      omega
theorem sem_max (hc : X.calm = true) : Sem1 X (.builtin "max") Mini.bMax (rMax X.K) := by
  refine ⟨cr_max hc, ?_⟩
  intro P α s H x va d Q hs hx e k
  replace hx := rz_dr hs hx
  generalize Mini.rz s x = x' at *
  cases x' <;> simp only [Mini.bMax] at e <;> first | cases e | skip
  split at e
  · rename_i n ns hb
    cases e
    obtain ⟨p, xs, rfl, h1, h2⟩ := hx
    exact ⟨p, n :: ns, rfl, .of (by rw [h1, h2.zints hb]), by simp, fun m h3 h4 => now k hs (by rw [maxI_uniq _ m h3 h4]; simp [Dr])⟩
  · cases e
theorem sem_int : Sem1 X (.type "int") Mini.bInt (fun xs H Q => (∃ i, xs = [.int i] ∧ Q (.int i) H) ∨ ∃ k, xs = [.bl k] ∧ Q (.int (if k then 1 else 0)) H) := by
  refine ⟨call_int1, ?_⟩
  intro P α s H x va d Q hs hx e k
  replace hx := rz_dr hs hx
  generalize Mini.rz s x = x' at *
  cases x' <;> simp [Mini.bInt] at e
  · subst e; simp [DrH, Dr] at hx; subst hx
    exact .inr ⟨_, rfl, now k hs (by simp [Dr])⟩
  · subst e; simp [DrH, Dr] at hx; subst hx
    exact .inl ⟨_, rfl, now k hs (by simp [Dr])⟩
theorem sem_list : Sem1 X (.type "list") Mini.bList (fun xs H Q => ∃ p ys, xs = [.ref p] ∧ (SqL X.K H p ys ∨ SqT X.K H p ys) ∧ ∀ l, H l = none → Q (.ref l) (upd H l (.lst ys))) := by
  refine ⟨call_list_of, ?_⟩
  intro P α s H x va d Q hs hx e k
  replace hx := rz_dr hs hx
  generalize Mini.rz s x = x' at *
  cases x' <;> simp [Mini.bList] at e
  subst e
  obtain ⟨p, xs, rfl, h1, h2⟩ := hx
  exact ⟨p, xs, rfl, .inl (.of h1), fun l hl => new_lst hs hl h2 k⟩
theorem sem_tup : Sem1 X (.type "tuple") Mini.bTup (fun xs H Q => ∃ p ys, xs = [.ref p] ∧ ((SqL X.K H p ys ∧ ∀ l, H l = none → Q (.ref l) (upd H l (.tup ys))) ∨ (SqT X.K H p ys ∧ Q (.ref p) H))) := by
  refine ⟨call_tuple_of, ?_⟩
  intro P α s H x va d Q hs hx e k
  have hx0 := hx
  replace hx := rz_dr hs hx
  generalize hrz : Mini.rz s x = x' at *
  cases x' <;> simp [Mini.bTup] at e
  · subst e
    have := rz_tup hrz
    subst this
    obtain ⟨p, xs, rfl, h1, h2⟩ := hx
    exact ⟨p, xs, rfl, .inr ⟨.of h1, now k hs hx0⟩⟩
  · subst e
    obtain ⟨p, xs, rfl, h1, h2⟩ := hx
    exact ⟨p, xs, rfl, .inl ⟨.of h1, fun l hl => new_tup hs hl h2.nil_any k⟩⟩
/-! ### of two: min, max, isinstance -/
theorem pm_b2 {x : Str} {b : Expr} {id : String} {o : Mini.Op} {f : Int → Int → Int} {ma mb : Mini.M} (ho : ∀ s x y, o s x y = match x, y with | .int i, .int j => some (.int (f i j)) | _, _ => none) (op : CallR X (.builtin id) (fun xs H Q => ∃ i j, xs = [.int i, .int j] ∧ Q (.int (f i j)) H)) (hg : Gl X x) (hm : X.mg x = none) (hv : bootBuiltins x = some (.builtin id))
    (ha : PE X a (tM X.K E ma)) (hb : PE X b (tM X.K E mb)) (hs : starEach [a, b] X.env = (false, eval a X.env) :: starEach [b] X.env := by rfl) (hs2 : starEach [b] X.env = (false, eval b X.env) :: starEach [] X.env := by rfl) (hn : x ≠ "__name__" := by decide) (hd : (x == ("__debug__" : Str)) = false := by decide) (hpl : (backTo pos (starEach [b] X.env)).any (·.1) = false := by rfl) :
    PE X (.Call (.Name x p) [a, b] [] pos) (tM X.K E (Mini.mOp o ma mb)) := (pe_callB op hg hm hv (pa_cons ha (pa_cons hb pa_nil hs2) hs) hn hd hs hpl).to
  fun σ H Q ⟨P, α, e, s, hS, q⟩ => ⟨P, α, e, s, hS, (Post.unbind q).imp fun d s1 α1 H1 g1 t1 q1 v hv => ⟨P, α1, e, s1, hS.gr g1 t1, (Post.unbind q1).imp fun d2 s2 α2 H2 g2 t2 q2 u hu => by
    obtain ⟨z, hz, q2⟩ := q2.unof
    have h1 := rz_dr t2 (g2.dr hv)
    have h2 := rz_dr t2 hu
    dsimp only at hz
    generalize Mini.rz s2 d = x' at *
    generalize Mini.rz s2 d2 = y' at *
    rw [ho] at hz
    split at hz
    · cases hz
      simp [DrH, Dr] at h1 h2
      subst h1; subst h2
      exact ⟨_, _, rfl, q2 α2 H2 (Gr.refl _ _ _) t2 _ (by simp [Dr])⟩
    · cases hz⟩⟩
theorem min_of (s : Mini.Sto) (x y : Mini.D) : Mini.opMin s x y = match x, y with | .int i, .int j => some (.int (if j < i then j else i)) | _, _ => none := by
  cases x <;> cases y <;> rfl
theorem max_of (s : Mini.Sto) (x y : Mini.D) : Mini.opMax s x y = match x, y with | .int i, .int j => some (.int (if j > i then j else i)) | _, _ => none := by
  cases x <;> cases y <;> rfl
def tyS : Mini.Ty → String
  | .bool => "bool" | .int => "int" | .str => "str" | .tuple => "tuple" | .list => "list"
theorem ty_ok {K : PySem.W.Frag} {H G : Hp} {α : List Addr} {t : Mini.Ty} {d z : Mini.D} {v : V} (h : DrH K H G α d v) (e : Mini.isTy t d = some z) : ∃ u b, TyX K H v (.type u) ∧ kitB u (tyS t) = some b ∧ z = .bl b := by
  cases d with
  | non => simp [DrH, Dr] at h; subst h; cases e; exact ⟨_, _, .base .non, by cases t <;> decide +kernel, rfl⟩
  | bl => simp [DrH, Dr] at h; subst h; cases e; exact ⟨_, _, .base (.bl _), by cases t <;> decide +kernel, rfl⟩
  | int => simp [DrH, Dr] at h; subst h; cases e; exact ⟨_, _, .base (.int _), by cases t <;> decide +kernel, rfl⟩
  | str => simp [DrH, Dr] at h; subst h; cases e; exact ⟨_, _, .base (.str _), by cases t <;> decide +kernel, rfl⟩
  | tup => obtain ⟨a, xs, rfl, h1, _⟩ := h; cases e; exact ⟨_, _, .base (.tup h1), by cases t <;> decide +kernel, rfl⟩
  | lst => obtain ⟨a, xs, rfl, h1, _⟩ := h; cases e; exact ⟨_, _, .base (.lst h1), by cases t <;> decide +kernel, rfl⟩
  | scr => cases e
  | dic => cases e
  | own => cases e
theorem pm_isi {t : Mini.Ty} {x : Str} {p2 : Pos} {ma : Mini.M} (hg : Gl X "isinstance") (hm : X.mg "isinstance" = none) (hg2 : Gl X x) (hm2 : X.mg x = none) (ha : PE X a (tM X.K E ma)) (hv2 : bootBuiltins x = some (.type (tyS t)) := by decide +kernel)
    (hn2 : x ≠ "__name__" := by decide) (hd2 : (x == ("__debug__" : Str)) = false := by decide)
    (hs : starEach [a, .Name x p2] X.env = (false, eval a X.env) :: starEach [.Name x p2] X.env := by rfl) (hs2 : starEach [.Name x p2] X.env = (false, eval (.Name x p2) X.env) :: starEach [] X.env := by rfl) (hpl : (backTo pos (starEach [.Name x p2] X.env)).any (·.1) = false := by rfl) :
    PE X (.Call (.Name "isinstance" p) [a, .Name x p2] [] pos) (tM X.K E (Mini.mB (Mini.isTy t) ma)) :=
  (pe_callB call_isi hg hm (by decide +kernel) (pa_cons ha (pa_cons (pe_bltn (v := .ty (tyS t)) hg2 hm2 hv2 rfl hn2 hd2) pa_nil hs2) hs) (by decide) (by decide) hs hpl).to
  fun σ H Q ⟨P, α, e, s, hS, q⟩ => ⟨P, α, e, s, hS, (Post.unbind q).imp fun d s1 α1 H1 g1 t1 q1 v hv => by
    obtain ⟨z, hz, q1⟩ := q1.unof
    obtain ⟨u, b, h1, h2, rfl⟩ := ty_ok (rz_dr t1 hv) hz
    exact ⟨_, _, _, _, b, rfl, .ty _, h1, kit_ty h2, q1.here t1 _ (by simp [Dr])⟩⟩
/-! ### join -/
theorem glue_join (z : List Nat) : ∀ xs : List (List Nat), Str.join ⟨z.toArray⟩ (xs.map fun x => (⟨x.toArray⟩ : Str)) = ⟨(Mini.glue z xs).toArray⟩
  | [] => rfl
  | [x] => rfl
  | x :: y :: r => by
    have ih := glue_join z (y :: r)
    simp only [List.map_cons] at ih ⊢
    show (⟨x.toArray⟩ : Str) ++ ⟨z.toArray⟩ ++ Str.join ⟨z.toArray⟩ _ = _
    rw [ih]
    show (⟨(x.toArray ++ z.toArray) ++ (Mini.glue z (y :: r)).toArray⟩ : Str) = ⟨(x ++ z ++ Mini.glue z (y :: r)).toArray⟩
    congr 1
    simp
theorem pm_join {sep : Str} {z : List Nat} {j : Nat} {p2 apos : Pos} {m : Mini.M} (ha : PE X a (tM X.K E m)) (hz : sep = ⟨z.toArray⟩ := by decide +kernel) (hs : starEach [a] X.env = [(false, eval a X.env)] := by rfl)
    (hbase : attributeBase (.Constant (.str sep) j p2) "join" X.env (eval (.Constant (.str sep) j p2) X.env) = eval (.Constant (.str sep) j p2) X.env := by rfl) (hline : (apos.endLine == pos.line) = true := by rfl) :
    PE X (.Call (.Attribute (.Constant (.str sep) j p2) "join" apos) [a] [] pos) (tM X.K E (Mini.mB (Mini.joinD z) m)) :=
  (pe_join (pe_str) ha hs hbase hline).to fun σ H Q ⟨P, α, e, s, hS, q⟩ => ⟨⟨_, rfl⟩, P, α, e, s, hS, (Post.unbind q).imp fun d s1 α1 H1 g1 t1 q1 v hv => by
    obtain ⟨w, hw, q1⟩ := q1.unof
    have h1 := rz_dr t1 hv
    dsimp only at hw
    generalize Mini.rz s1 d = x' at *
    cases x' <;> simp only [Mini.joinD] at hw <;> first | cases hw | skip
    obtain ⟨xs, hx, hw⟩ := Option.bind_eq_some_iff.mp hw
    split at hw
    · rename_i hl
      cases hw
      obtain ⟨p, ys, rfl, h2, h3⟩ := h1
      have e1 := h3.zstrs hx
      subst hz
      refine ⟨_, p, xs.map fun x => (⟨x.toArray⟩ : Str), rfl, rfl, .inl (.of ?_), ?_, q1.here t1 _ ?_⟩
      · rw [h2, e1, List.map_map]
        rfl
      · rw [List.map_map, List.length_map]
        exact hl
      · rw [Dr, TL.join_eq, glue_join]
    · cases hw⟩
end
end Snd
end
section
namespace Snd
open PySem L2
section
variable {K : PySem.W.Frag} {P α : List Addr} {s : Mini.Sto} {H H' : Hp}
theorem imm_app (H : Hp) (P α : List Addr) : imm H (P ++ α) [] = imm H P α := by
  funext b
  unfold imm
  simp [List.mem_append]
/-- everything that is known stays -/
theorem StR.ext (h : StR K P α s H) (e : Ext H H') : Gr P α H α H' ∧ StR K P α s H' := by
  have x : Ext (imm H P α) (imm H' P α) := fun b o q => by
    rw [imm_some] at q ⊢
    exact ⟨q.1, q.2.1, e b o q.2.2⟩
  refine ⟨⟨fun _ _ q => q, x, fun b _ o q => e b o q⟩, h.nd, h.dis, fun b hb => ?_, h.len, fun k o a h1 h2 => ?_⟩
  · intro z
    cases q : H b with
    | none => exact h.pt b hb q
    | some o => rw [e b o q] at z; cases z
  · have q := h.ob k o a h1 h2
    cases z : H a with
    | none => exact absurd z q.some_of
    | some u =>
      rw [e a u z, ← z]
      exact q.mono x
/-- an owned object is changed -/
theorem StR.chg (h : StR K P α s H) {k : Nat} {a : Addr} {o : Mini.Ob} {ho : HO} (ha : α[k]? = some a) (hk : k < s.length) (r : ObR K (imm H P α) o (some ho)) : Gr P α H α (upd H a ho) ∧ StR K P α (s.set k o) (upd H a ho) := by
  have hm : a ∈ α := List.mem_of_getElem? ha
  have ei : imm (upd H a ho) P α = imm H P α := by
    funext b
    unfold imm
    split
    · rfl
    · rename_i q
      rw [upd_ne (show b ≠ a from fun z => q (.inr (z ▸ hm)))]
  refine ⟨⟨fun _ _ q => q, by rw [ei]; exact Ext.refl _, fun b hb u q => ?_⟩, h.nd, h.dis, fun b hb => ?_, by simp [h.len], fun j u c h1 h2 => ?_⟩
  · rw [upd_ne (show b ≠ a from fun z => h.dis a hm (z ▸ hb))]; exact q
  · rw [upd_ne (show b ≠ a from fun z => h.dis a hm (z ▸ hb))]; exact h.pt b hb
  · rw [ei]
    by_cases hj : k = j
    · subst hj
      rw [ha] at h2
      cases h2
      rw [upd_same]
      rw [List.getElem?_set_self hk] at h1
      cases h1
      exact r
    · rw [List.getElem?_set_ne hj] at h1
      have : c ≠ a := fun z => by
        subst z
        have hj1 : j < α.length := (List.getElem?_eq_some_iff.mp h2).1
        have hk1 : k < α.length := (List.getElem?_eq_some_iff.mp ha).1
        have e1 := (List.getElem?_eq_some_iff.mp h2).2
        have e2 := (List.getElem?_eq_some_iff.mp ha).2
        exact hj ((List.getElem_inj h.nd).mp (e2.trans e1.symm))
      rw [upd_ne this]
      exact h.ob j u c h1 h2
/-- a new object that is ours alone -/
theorem StR.newOwn (h : StR K P α s H) {p : Addr} {o : Mini.Ob} {ho : HO} (hp : H p = none) (r : ObR K (imm H P α) o (some ho)) :
    Gr P α H (α ++ [p]) (upd H p ho) ∧ StR K P (α ++ [p]) (s ++ [o]) (upd H p ho) ∧ (α ++ [p])[s.length]? = some p := by
  have n1 : p ∉ P := fun z => h.pt p z hp
  have n2 : p ∉ α := fun z => h.there z hp
  have e : Ext (imm H P α) (imm (upd H p ho) P (α ++ [p])) := fun b u q => by
    rw [imm_some] at q ⊢
    have : b ≠ p := ne_of_none q.2.2 hp
    exact ⟨q.1, by simp [q.2.1, this], by rw [upd_ne this]; exact q.2.2⟩
  have el : (α ++ [p])[s.length]? = some p := by rw [h.len]; simp
  refine ⟨⟨fun k a q => ?_, e, fun b hb u q => by rw [upd_ne (ne_of_none q hp)]; exact q⟩, ⟨?_, ?_, fun b hb => ?_, by simp [h.len], fun j u c h1 h2 => ?_⟩, el⟩
  · rw [List.getElem?_append_left (List.getElem?_eq_some_iff.mp q).1]; exact q
  · rw [List.nodup_append]
    exact ⟨h.nd, by simp, fun a ha b hb z => by simp at hb; subst hb; subst z; exact n2 ha⟩
  · intro a ha
    rcases List.mem_append.mp ha with ha | ha
    · exact h.dis a ha
    · simp at ha; subst ha; exact n1
  · rw [upd_ne (show b ≠ p from fun z => n1 (z ▸ hb))]; exact h.pt b hb
  · by_cases hj : j < s.length
    · rw [List.getElem?_append_left hj] at h1
      rw [List.getElem?_append_left (by rw [← h.len]; exact hj)] at h2
      have hc : c ∈ α := List.mem_of_getElem? h2
      rw [upd_ne (show c ≠ p from fun z => n2 (z ▸ hc))]
      exact (h.ob j u c h1 h2).mono e
    · have hj2 : j < (s ++ [o]).length := (List.getElem?_eq_some_iff.mp h1).1
      have : j = s.length := by simp at hj2; omega
      subst this
      rw [el] at h2
      cases h2
      simp at h1
      subst h1
      rw [upd_same]
      exact r.mono e
end
section
variable {X : Cx} {E : XC} {a : Expr} {pos apos p : Pos}
/-! ### methods of an owned list -/
theorem own_at {K : PySem.W.Frag} {P α : List Addr} {s : Mini.Sto} {H : Hp} (hs : StR K P α s H) {k : Nat} {v : V} (h : Dr K (imm H P α) α (.own k) v) : ∃ b, α[k]? = some b ∧ v = .ref b := by
  rw [Dr] at h; exact h
theorem pm_app {o : Expr} {mo ma : Mini.M} (ho : PE X o (tM X.K E mo)) (ha : PE X a (tM X.K E ma)) (hs : starEach [a] X.env = (false, eval a X.env) :: starEach [] X.env := by rfl)
    (h1 : attributeBase o "append" X.env (eval o X.env) = eval o X.env := by rfl) (h2 : (apos.endLine == pos.line) = true := by rfl) (hfew : ((backTo pos (starEach (a :: []) X.env)).all (fun x => !x.1) && (backToKw pos (keywordEach [] X.env)).all (fun x => x.1.isSome)
      && decide ((a :: []).length + ([] : List Keyword).length + (if ([] : List Keyword).isEmpty then 0 else 1) < 30)) = true := by rfl) :
    PE X (.Call (.Attribute o "append" apos) [a] [] pos) (tM X.K E (Mini.mApp mo ma)) :=
  (pe_bm PySem.F.plainAttrs_list PySem.F.slot_list_append PySem.F.type_list_append mt_append ho (pa_cons ha pa_nil hs) h1 hfew h2 hs).to fun σ H Q ⟨P, α, e, s, hS, q⟩ =>
  ⟨P, α, e, s, hS, (Post.unbind q).imp fun d s1 α1 H1 g1 t1 q1 v hv => by
    cases d <;> simp only at q1 <;> first | exact q1.elim | skip
    rename_i k
    cases hk : s1[k]? with
    | none => rw [hk] at q1; exact q1.elim
    | some ob =>
      cases ob with
      | DI _ => rw [hk] at q1; exact q1.elim
      | DT _ => rw [hk] at q1; exact q1.elim
      | L ds =>
        rw [hk] at q1
        obtain ⟨b, hb, rfl, xs, hx, hd⟩ := own_ob t1 hv hk
        refine ⟨.inl ⟨rfl, xs, .of hx⟩, P, α1, e, s1, hS.gr g1 t1, (Post.unbind q1).imp fun d2 s2 α2 H2 g2 t2 q2 u hu => ?_⟩
        dsimp only at q2
        have hb2 := g2.pre k b hb
        cases hk2 : s2[k]? with
        | none => rw [hk2] at q2; exact q2.elim
        | some ob =>
          cases ob with
          | DI _ => rw [hk2] at q2; exact q2.elim
          | DT _ => rw [hk2] at q2; exact q2.elim
          | L ds2 =>
            rw [hk2] at q2
            obtain ⟨⟨c1, c2⟩, q2⟩ := q2.unite
            obtain ⟨xs2, hx2, hd2⟩ := t2.ob k _ b hk2 hb2
            have r : ObR X.K (imm H2 P α2) (.L (ds2 ++ [d2])) (some (.lst (xs2 ++ [u]))) := ⟨_, rfl, hd2.append (by simp only [DrL]; exact ⟨Dr.free c2 hu, trivial⟩)⟩
            obtain ⟨g3, t3⟩ := t2.chg hb2 (List.getElem?_eq_some_iff.mp hk2).1 r
            exact ⟨b, xs2, u, rfl, rfl, hx2, slt (by rw [← hd2.len]; exact c1), q2 α2 _ g3 t3 .non (by simp [Dr])⟩⟩
theorem pm_pop {o : Expr} {mo : Mini.M} (ho : PE X o (tM X.K E mo)) (h1 : attributeBase o "pop" X.env (eval o X.env) = eval o X.env := by rfl) (h2 : (apos.endLine == pos.line) = true := by rfl) :
    PE X (.Call (.Attribute o "pop" apos) [] [] pos) (tM X.K E (Mini.mPop mo)) :=
  (pe_bm0 PySem.F.plainAttrs_list PySem.F.slot_list_pop PySem.F.type_list_pop mt_pop ho h1 h2).to fun σ H Q ⟨P, α, e, s, hS, q⟩ =>
  ⟨P, α, e, s, hS, (Post.unbind q).imp fun d s1 α1 H1 g1 t1 q1 v hv => by
    cases d <;> simp only at q1 <;> first | exact q1.elim | skip
    rename_i k
    cases hk : s1[k]? with
    | none => rw [hk] at q1; exact q1.elim
    | some ob =>
      cases ob with
      | DI _ => rw [hk] at q1; exact q1.elim
      | DT _ => rw [hk] at q1; exact q1.elim
      | L ds =>
        rw [hk] at q1
        dsimp only at q1
        obtain ⟨b, hb, rfl, xs, hx, hd⟩ := own_ob t1 hv hk
        cases hl : ds[ds.length - 1]? with
        | none => rw [hl] at q1; exact q1.elim
        | some z =>
          rw [hl] at q1
          obtain ⟨y, hy, hz⟩ := hd.at hl
          have r : ObR X.K (imm H1 P α1) (.L ds.dropLast) (some (.lst xs.dropLast)) := ⟨_, rfl, hd.dropLast⟩
          obtain ⟨g3, t3⟩ := t1.chg hb (List.getElem?_eq_some_iff.mp hk).1 r
          exact ⟨.inl ⟨rfl, xs, .of hx⟩, b, xs, y, rfl, rfl, hx, by rw [← hd.len]; exact hy, q1 α1 _ g3 t3 y (g3.dr hz.nil_any)⟩⟩
theorem upd_of {f : List Mini.D → List Mini.D} {g : List V → List V} {r : V → List V → Hp → VK → Prop} {mo : Mini.M} (hf : ∀ {K G ds xs}, DrL K G [] ds xs → DrL K G [] (f ds) (g xs))
    (hr : ∀ (b : Addr) (xs : List V) (H : Hp) (Q : VK), H b = some (.lst xs) → Q .non (upd H b (.lst (g xs))) → r (.ref b) [] H Q) : ∀ σ H Q, tM X.K E (Mini.mUpd f mo) σ H Q → tBM0 X.K "list" r (tM X.K E mo) σ H Q := fun σ H Q ⟨P, α, e, s, hS, q⟩ =>
  ⟨P, α, e, s, hS, (Post.unbind q).imp fun d s1 α1 H1 g1 t1 q1 v hv => by
    cases d <;> simp only at q1 <;> first | exact q1.elim | skip
    rename_i k
    cases hk : s1[k]? with
    | none => rw [hk] at q1; exact q1.elim
    | some ob =>
      cases ob with
      | DI _ => rw [hk] at q1; exact q1.elim
      | DT _ => rw [hk] at q1; exact q1.elim
      | L ds =>
        rw [hk] at q1
        dsimp only at q1
        obtain ⟨b, hb, rfl, xs, hx, hd⟩ := own_ob t1 hv hk
        have r : ObR X.K (imm H1 P α1) (.L (f ds)) (some (.lst (g xs))) := ⟨_, rfl, hf hd⟩
        obtain ⟨g3, t3⟩ := t1.chg hb (List.getElem?_eq_some_iff.mp hk).1 r
        exact ⟨.inl ⟨rfl, xs, .of hx⟩, hr b xs H1 Q hx (q1 α1 _ g3 t3 .non (by simp [Dr]))⟩⟩
theorem pm_rev {o : Expr} {mo : Mini.M} (ho : PE X o (tM X.K E mo)) (h1 : attributeBase o "reverse" X.env (eval o X.env) = eval o X.env := by rfl) (h2 : (apos.endLine == pos.line) = true := by rfl) :
    PE X (.Call (.Attribute o "reverse" apos) [] [] pos) (tM X.K E (Mini.mRev mo)) :=
  (pe_bm0 PySem.F.plainAttrs_list PySem.F.slot_list_reverse PySem.F.type_list_reverse mt_reverse ho h1 h2).to (upd_of (g := List.reverse) (fun h => h.reverse) fun b xs H Q h q => ⟨b, xs, rfl, rfl, h, q⟩)
theorem pm_clear {o : Expr} {mo : Mini.M} (ho : PE X o (tM X.K E mo)) (h1 : attributeBase o "clear" X.env (eval o X.env) = eval o X.env := by rfl) (h2 : (apos.endLine == pos.line) = true := by rfl) :
    PE X (.Call (.Attribute o "clear" apos) [] [] pos) (tM X.K E (Mini.mClear mo)) :=
  (pe_bm0 PySem.F.plainAttrs_list PySem.F.slot_list_clear PySem.F.type_list_clear mt_clear ho h1 h2).to (upd_of (g := fun _ => []) (fun h => by simp [DrL]) fun b xs H Q h q => ⟨b, xs, rfl, rfl, h, q⟩)
/-- len of an owned dict -/
theorem pm_lenD {m : Mini.M} (hg : Gl X "len") (hm : X.mg "len" = none) (ha : PE X a (tM X.K E m)) (hs : starEach [a] X.env = (false, eval a X.env) :: starEach [] X.env := by rfl) :
    PE X (.Call (.Name "len" p) [a] [] pos) (tM X.K E (Mini.mLenD m)) := (pe_callB call_len_dT hg hm (by decide +kernel) (pa_cons ha pa_nil hs) (by decide) (by decide) hs).to fun σ H Q ⟨P, α, e, s, hS, q⟩ =>
  ⟨P, α, e, s, hS, (Post.unbind q).imp fun d s1 α1 H1 g1 t1 q1 v hv => by
    cases d <;> simp only at q1 <;> first | exact q1.elim | skip
    rename_i k
    cases hk : s1[k]? with
    | none => rw [hk] at q1; exact q1.elim
    | some ob =>
      cases ob with
      | DI _ => rw [hk] at q1; exact q1.elim
      | L _ => rw [hk] at q1; exact q1.elim
      | DT ks =>
        rw [hk] at q1
        obtain ⟨b, hb, rfl, hx⟩ := own_ob t1 hv hk
        rw [ObR] at hx
        exact ⟨b, _, rfl, hx, q1.here t1 _ (by simp [Dr])⟩⟩
theorem pm_dnewT : PE X (.Dict [] [] pos) (tM X.K E Mini.mOwnDT) := pe_dnewT.to fun σ H Q ⟨P, α, e, s, hS, q⟩ p hp => by
  obtain ⟨g2, t2, el⟩ := hS.st.newOwn (o := .DT []) (ho := .dT []) hp (by rw [ObR]; rfl)
  exact q _ _ g2 t2 _ (by rw [Dr]; exact ⟨p, el, rfl⟩)
theorem pm_dnewI : PE X (.Dict [] [] pos) (tM X.K E Mini.mOwnDI) := pe_dnewK.to fun σ H Q ⟨P, α, e, s, hS, q⟩ p hp => by
  obtain ⟨g2, t2, el⟩ := hS.st.newOwn (o := .DI []) (ho := .dK []) hp (by rw [ObR]; rfl)
  exact q _ _ g2 t2 _ (by rw [Dr]; exact ⟨p, el, rfl⟩)

/-! ### calls -/
def spP (K : PySem.W.Frag) (C : Nat → Addr) (n : Nat) (φ : List Mini.D → Mini.R Mini.D) : Sp := fun vs H Q E => vs.length = n ∧ ∃ (P : List Addr) (ds : List Mini.D), (∀ b ∈ P, H b ≠ none) ∧ DrL K (imm H P []) [] ds vs ∧
  match φ ds with
  | .ok d => ∀ v H', Ext H H' → Dr K (imm H' P []) [] d v → Q v H'
  | .exc c => ∀ H', Ext H H' → E (.ref (C c)) none H'
  | .bad => False
def spG (K : PySem.W.Frag) (C : Nat → Addr) (n : Nat) (φ : Mini.F) : Sp := fun vs H Q E => vs.length = n ∧ ∃ (P α : List Addr) (s : Mini.Sto) (ds : List Mini.D), StR K P α s H ∧ DrL K (imm H P α) α ds vs ∧
  Post K (fun c oe H' => E (.ref (C c)) oe H') P α H (φ ds s) fun d s' α' H' => ∀ v, Dr K (imm H' P α') α' d v → Q v H'
variable {CX : CXT} {C : Nat → Addr} {n k : Nat} {f : Addr} {fd : FuncData} {ps : List Str} {x : Str} {EK : XK} {e : Expr} {es : List Expr}
theorem pm_call {φ : List Mini.D → Mini.R Mini.D} {ma : Mini.A} (F : FnOk X.prog X.w X.K X.mg X.base CX k f fd ps (spP X.K C (e :: es).length φ)) (hr : Room k X.A) (hg : Gl X x) (hm : X.mg x = some (.ref f)) (hk : PySem.W.keepIn X.K (.ref f) = true) (hb : Binds X.K fd ps [])
    (hx : Passes CX X EK) (hE : ∀ c oe H, E c oe H → EK (.ref (C c)) oe H) (ha : PA X (e :: es) (tA X.K E ma)) (hn : ∀ e' s ds s', ma e' s = .ok (ds, s') → ds.length = (e :: es).length) (hdb : (x == ("__debug__" : Str)) = false := by decide)
    (he : starEach (e :: es) X.env = (false, eval e X.env) :: starEach es X.env := by rfl) (hpl : (backTo pos (starEach es X.env)).any (·.1) = false := by rfl) :
    PE X (.Call (.Name x p) (e :: es) [] pos) (tM X.K E (Mini.mCall φ ma)) := (pe_call F hr hg hm hk hb .nil hx ha hdb he hpl).to fun σ H Q ⟨P, α, e, s, hS, q⟩ => by
  refine ⟨P, α, e, s, hS, ?_⟩
  replace q := Post.unbind q
  cases hma : ma e s with
  | bad => rw [hma] at q; exact q.elim
  | exc c => rw [hma] at q; exact q
  | ok pr =>
    rw [hma] at q
    intro α1 H1 g1 t1 vs hvs
    have q1 := q α1 H1 g1 t1
    obtain ⟨hc, q1⟩ := q1.unite
    rw [List.append_nil]
    refine ⟨by rw [← hvs.len]; exact hn e s pr.1 pr.2 hma, P ++ α1, pr.1, fun b hb => ?_, by rw [imm_app]; exact t1.chk hc hvs, ?_⟩
    · rcases List.mem_append.mp hb with hb | hb
      · exact t1.pt b hb
      · exact t1.there hb
    · cases hφ : φ pr.1 with
      | bad => rw [hφ] at q1; exact q1
      | exc c =>
        rw [hφ] at q1
        exact fun H' hx => hE c none H' (q1 α1 H' (t1.ext hx).1)
      | ok d =>
        rw [hφ] at q1
        intro v H' hx hd
        rw [imm_app] at hd
        exact q1 α1 H' (t1.ext hx).1 (t1.ext hx).2 v hd.nil_any
theorem pm_callG {φ : Mini.F} {ma : Mini.A} (F : FnOk X.prog X.w X.K X.mg X.base CX k f fd ps (spG X.K C (e :: es).length φ)) (hr : Room k X.A) (hg : Gl X x) (hm : X.mg x = some (.ref f)) (hk : PySem.W.keepIn X.K (.ref f) = true) (hb : Binds X.K fd ps [])
    (hx : Passes CX X EK) (hE : ∀ c oe H, E c oe H → EK (.ref (C c)) oe H) (ha : PA X (e :: es) (tA X.K E ma)) (hn : ∀ e' s ds s', ma e' s = .ok (ds, s') → ds.length = (e :: es).length) (hdb : (x == ("__debug__" : Str)) = false := by decide)
    (he : starEach (e :: es) X.env = (false, eval e X.env) :: starEach es X.env := by rfl) (hpl : (backTo pos (starEach es X.env)).any (·.1) = false := by rfl) :
    PE X (.Call (.Name x p) (e :: es) [] pos) (tM X.K E (Mini.mCallG φ ma)) := (pe_call F hr hg hm hk hb .nil hx ha hdb he hpl).to fun σ H Q ⟨P, α, e, s, hS, q⟩ => by
  refine ⟨P, α, e, s, hS, ?_⟩
  replace q := Post.unbind q
  cases hma : ma e s with
  | bad => rw [hma] at q; exact q.elim
  | exc c => rw [hma] at q; exact q
  | ok pr =>
    rw [hma] at q
    intro α1 H1 g1 t1 vs hvs
    have q1 := q α1 H1 g1 t1
    rw [List.append_nil]
    refine ⟨by rw [← hvs.len]; exact hn e s pr.1 pr.2 hma, P, α1, pr.2, pr.1, t1, hvs, ?_⟩
    dsimp only at q1
    cases hφ : φ pr.1 pr.2 with
    | bad => rw [hφ] at q1; exact q1
    | exc c =>
      rw [hφ] at q1
      exact fun α' H' g => hE c none H' (q1 α' H' g)
    | ok d =>
      rw [hφ] at q1
      exact q1
/-! ### a part, while what is owned stands still -/
theorem fz_dr {K : PySem.W.Frag} {P α : List Addr} {s : Mini.Sto} {H : Hp} (hs : StR K P α s H) {d d' : Mini.D} {v : V} (h : Dr K (imm H P α) α d v) (e : Mini.fzD s d = some d') : Dr K (imm H P []) [] d' v := by
  have x : Ext (imm H P α) (imm H P []) := fun b o q => by
    rw [imm_some] at q ⊢
    exact ⟨q.1, by simp, q.2.2⟩
  cases d with
  | own k =>
    simp only [Mini.fzD] at e
    cases hk : s[k]? with
    | none => rw [hk] at e; cases e
    | some o =>
      cases o with
      | DI _ => rw [hk] at e; cases e
      | DT _ => rw [hk] at e; cases e
      | L ds =>
        rw [hk] at e
        cases e
        obtain ⟨b, hb, rfl, xs, hx, hd⟩ := own_ob hs h hk
        rw [Dr]
        exact ⟨b, xs, rfl, imm_some.mpr ⟨hs.dis b (List.mem_of_getElem? hb), by simp, hx⟩, DrL.mono x (fun _ _ q => q) hd⟩
  | tup ds =>
    simp only [Mini.fzD] at e
    split at e
    · rename_i hf
      cases e
      have f : Mini.free (.tup ds) = true := by rw [Mini.free]; exact hf
      exact Dr.mono x (fun _ _ q => by simp at q) (Dr.free (α' := []) f h)
    · cases e
  | lst ds =>
    cases e
    rw [Dr] at h ⊢
    obtain ⟨a, xs, h1, h2, h3⟩ := h
    exact ⟨a, xs, h1, x _ _ h2, DrL.mono x (fun _ _ q => q) h3⟩
  | scr ns =>
    cases e
    rw [Dr] at h ⊢
    obtain ⟨a, h1, h2⟩ := h
    exact ⟨a, h1, x.sqL h2⟩
  | dic n =>
    cases e
    rw [Dr] at h ⊢
    obtain ⟨a, kvs, h1, h2, h3⟩ := h
    exact ⟨a, kvs, h1, x _ _ h2, h3⟩
  | non => cases e; rw [Dr] at h ⊢; exact h
  | bl _ => cases e; rw [Dr] at h ⊢; exact h
  | int _ => cases e; rw [Dr] at h ⊢; exact h
  | str _ => cases e; rw [Dr] at h ⊢; exact h
theorem Gr.all {P α : List Addr} {H H' : Hp} (g : Gr P [] H α H') : Ext H H' := fun b o q => by
  by_cases hb : b ∈ P
  · exact g.keep b hb o q
  · exact imm_sub _ _ _ _ _ (g.ext b o (imm_some.mpr ⟨hb, by simp, q⟩))
theorem flat_dr {K : PySem.W.Frag} {G G' : Hp} {α α' : List Addr} {d : Mini.D} {v : V} (f : Mini.flat d = true) (h : Dr K G α d v) : Dr K G' α' d v := by
  cases d <;> simp [Mini.flat] at f <;> rw [Dr] at h ⊢ <;> exact h
mutual
theorem noL_dr {K : PySem.W.Frag} {G G' : Hp} {α α' : List Addr} (e : ∀ a xs, G a = some (.tup xs) → G' a = some (.tup xs)) : ∀ {d : Mini.D} {v : V}, Mini.noL d = true → Dr K G α d v → Dr K G' α' d v
  | .non, v, _, h => by simpa [Dr] using h
  | .bl b, v, _, h => by simpa [Dr] using h
  | .int i, v, _, h => by simpa [Dr] using h
  | .str s, v, _, h => by simpa [Dr] using h
  | .tup ds, v, f, h => by
    rw [Dr] at h ⊢
    obtain ⟨a, xs, h1, h2, h3⟩ := h
    exact ⟨a, xs, h1, e _ _ h2, noLL_dr e (by simpa [Mini.noL] using f) h3⟩
  | .lst ds, v, f, h => by simp [Mini.noL] at f
  | .scr ns, v, f, h => by simp [Mini.noL] at f
  | .own k, v, f, h => by simp [Mini.noL] at f
  | .dic n, v, f, h => by simp [Mini.noL] at f
theorem noLL_dr {K : PySem.W.Frag} {G G' : Hp} {α α' : List Addr} (e : ∀ a xs, G a = some (.tup xs) → G' a = some (.tup xs)) : ∀ {ds : List Mini.D} {vs : List V}, Mini.noLL ds = true → DrL K G α ds vs → DrL K G' α' ds vs
  | [], [], _, h => by simp [DrL]
  | [], _ :: _, _, h => by simp [DrL] at h
  | _ :: _, [], _, h => by simp [DrL] at h
  | d :: ds, v :: vs, f, h => by
    rw [DrL] at h ⊢
    have f' : Mini.noL d = true ∧ Mini.noLL ds = true := by simpa [Mini.noLL] using f
    exact ⟨noL_dr e f'.1 h.1, noLL_dr e f'.2 h.2⟩
end
theorem StR.no_tup {K : PySem.W.Frag} {P α : List Addr} {s : Mini.Sto} {H : Hp} (hs : StR K P α s H) {a : Addr} {xs : List V} (h : H a = some (.tup xs)) : a ∉ α := fun ha => by
  obtain ⟨k, hk, rfl⟩ := List.getElem_of_mem ha
  have hk2 : k < s.length := by rw [hs.len]; exact hk
  have := hs.ob k s[k] α[k] (List.getElem?_eq_getElem hk2) (List.getElem?_eq_getElem hk)
  rw [h] at this
  cases ho : s[k] with
  | L ds => rw [ho, ObR] at this; obtain ⟨ys, h1, _⟩ := this; cases h1
  | DI ks => rw [ho, ObR] at this; cases this
  | DT ks => rw [ho, ObR] at this; cases this
theorem pm_fz {m : Mini.M} (h : PE X e (tM X.K E m)) : PE X e (tM X.K E (Mini.mFz m)) := h.to fun σ H Q ⟨P, α, e, s, hS, q⟩ => by
  refine ⟨P, [], e.map fun o => o.bind (Mini.fzD s), [], ⟨⟨by simp, by simp, hS.st.pt, rfl, by simp⟩, by simp [hS.env.1], fun i d he => ?_⟩, ?_⟩
  · rw [List.getElem?_map] at he
    obtain ⟨o, ho, he⟩ := Option.map_eq_some_iff.mp he
    obtain ⟨d0, hd0, he⟩ := Option.bind_eq_some_iff.mp he
    subst hd0
    obtain ⟨v, hv, hd⟩ := hS.env.2 i d0 ho
    exact ⟨v, hv, fz_dr hS.st hd he⟩
  · unfold Mini.mFz at q
    cases hm : m (e.map fun o => o.bind (Mini.fzD s)) [] with
    | bad => rw [hm] at q; exact q.elim
    | exc c =>
      rw [hm] at q
      exact fun α' H' g => q α H' (hS.st.ext g.all).1
    | ok pr =>
      rw [hm] at q
      intro α' H' g t v hv
      obtain ⟨g2, t2⟩ := hS.st.ext g.all
      obtain ⟨hf, q⟩ := Post.unite (c := Mini.noL pr.1 = true) q
      exact q α H' g2 t2 v (noL_dr (fun a xs h => by
        rw [imm_some] at h ⊢
        exact ⟨h.1, t2.no_tup h.2.2, h.2.2⟩) hf hv)
end
end Snd
end
section
namespace Snd
open PySem L2
/-! ### what is walked -/
def WalkD (K : PySem.W.Frag) (J : It) (ds : List Mini.D) (G : Hp) (α : List Addr) : Prop := Walk J ds.length (fun H2 => Ext G H2) (fun i H2 x H3 => H3 = H2 ∧ ∃ d, ds[i]? = some d ∧ Dr K G α d x)
def tI (K : PySem.W.Frag) (E : XC) (m : Mini.A) : TI := fun σ H R => ∃ P α e s, SR K P α e s σ H ∧ Post K E P α H (m e s) fun ds s' α' H' => ∀ J, WalkD K J ds (imm H' P α') α' → R J H'
section
variable {K : PySem.W.Frag} {G : Hp} {α : List Addr}
theorem wd_list {a : Addr} {ds : List Mini.D} {xs : List V} (h : G a = some (.lst xs)) (r : DrL K G α ds xs) : WalkD K (Itl K a) ds G α := by
  unfold WalkD
  rw [r.len]
  refine (walk_list (K := K) (a := a) (xs := xs)).mono (fun H q => .of (q _ _ h)) fun i H x H' hi _ y => ⟨y.1, ?_⟩
  have hl : i < ds.length := by rw [r.len]; exact hi
  exact ⟨ds[i], List.getElem?_eq_getElem hl, (drL_iff.mp r).2 i _ x (List.getElem?_eq_getElem hl) y.2⟩
theorem wd_tup {a : Addr} {ds : List Mini.D} {xs : List V} (h : G a = some (.tup xs)) (r : DrL K G α ds xs) : WalkD K (Itt K a) ds G α := by
  unfold WalkD
  rw [r.len]
  refine (walk_tup (K := K) (a := a) (xs := xs)).mono (fun H q => .of (q _ _ h)) fun i H x H' hi _ y => ⟨y.1, ?_⟩
  have hl : i < ds.length := by rw [r.len]; exact hi
  exact ⟨ds[i], List.getElem?_eq_getElem hl, (drL_iff.mp r).2 i _ x (List.getElem?_eq_getElem hl) y.2⟩
theorem wd_rev {a : Addr} {ds : List Mini.D} {xs : List V} (h : G a = some (.lst xs)) (r : DrL K G α ds xs) : WalkD K (Itv K a xs.length) ds.reverse G α := by
  unfold WalkD
  rw [List.length_reverse, r.len]
  refine (walk_rev (K := K) (a := a) (xs := xs)).mono (fun H q => .of (q _ _ h)) fun i H x H' hi _ y => ⟨y.1, ?_⟩
  have hl : ds.length - 1 - i < ds.length := by rw [r.len]; omega
  refine ⟨ds[ds.length - 1 - i], by rw [List.getElem?_reverse (by rw [r.len]; exact hi), List.getElem?_eq_getElem hl], (drL_iff.mp r).2 (ds.length - 1 - i) _ x (List.getElem?_eq_getElem hl) (by rw [r.len]; exact y.2)⟩
theorem walk_revT {a : Addr} {xs : List V} : Walk (RT.ItvT K a xs.length) xs.length (fun H => SqT K H a xs) (fun i H x H' => H' = H ∧ xs[xs.length - 1 - i]? = some x) :=
  ⟨fun i _ hi q => ⟨hi, xs, xs[xs.length - 1 - i]'(by omega), q, by simp [show xs.length - 1 - i < xs.length by omega]⟩, fun _ _ => Nat.le_refl _, fun _ _ _ _ _ q y => ⟨y.1, y.2 xs q⟩⟩
theorem wd_revT {a : Addr} {ds : List Mini.D} {xs : List V} (h : G a = some (.tup xs)) (r : DrL K G α ds xs) : WalkD K (RT.ItvT K a xs.length) ds.reverse G α := by
  unfold WalkD
  rw [List.length_reverse, r.len]
  refine (walk_revT (K := K) (a := a) (xs := xs)).mono (fun H q => .of (q _ _ h)) fun i H x H' hi _ y => ⟨y.1, ?_⟩
  have hl : ds.length - 1 - i < ds.length := by rw [r.len]; omega
  refine ⟨ds[ds.length - 1 - i], by rw [List.getElem?_reverse (by rw [r.len]; exact hi), List.getElem?_eq_getElem hl], (drL_iff.mp r).2 (ds.length - 1 - i) _ x (List.getElem?_eq_getElem hl) (by rw [r.len]; exact y.2)⟩
theorem wd_str {z : List Nat} : WalkD K (Its ⟨z.toArray⟩) (Mini.sgn z) G α := by
  unfold WalkD Mini.sgn
  rw [List.length_map]
  refine (walk_str (z := ⟨z.toArray⟩)).mono (fun H q => trivial) fun i H x H' hi _ y => ⟨y.1, ?_⟩
  obtain ⟨c, hc, rfl⟩ := y.2
  refine ⟨.str [c], ?_, by simp [Dr]⟩
  rw [List.getElem?_map]
  have : z[i]? = some c := by simpa using hc
  rw [this]; rfl
theorem wd_rng {lo : Int} {n : Nat} : WalkD K (Itr lo n) (Mini.rng lo n) G α := by
  unfold WalkD Mini.rng
  rw [List.length_map, List.length_range]
  refine (walk_range (lo := lo) (n := n)).mono (fun H q => trivial) fun i H x H' hi _ y => ⟨y.1, ?_⟩
  refine ⟨.int (lo + (i : Nat)), ?_, by rw [Dr]; exact y.2⟩
  rw [List.getElem?_map, List.getElem?_range hi]
  rfl
end
section
variable {X : Cx} {E : XC} {tg : Expr} {p pos : Pos}
theorem im_seq {e : Expr} {m : Mini.M} (h : PE X e (tM X.K E m)) : PI X tg e (tI X.K E (Mini.iSeq m)) := ((pi_list h).or ((pi_tup h).or (pi_str h))).to fun σ H R ⟨P, α, e, s, hS, q⟩ => by
  unfold Mini.iSeq at q
  cases hm : m e s with
  | bad => rw [hm] at q; exact q.elim
  | exc c => rw [hm] at q; exact .inl ⟨P, α, e, s, hS, by rw [hm]; exact q⟩
  | ok pr =>
    rw [hm] at q
    obtain ⟨d, s1⟩ := pr
    obtain ⟨ds, hw, q⟩ := Post.unof (f := fun ds => Mini.R.ok (ds, s1)) q
    cases d with
    | lst es =>
      cases hw
      refine .inl ⟨P, α, e, s, hS, by
        rw [hm]
        intro α1 H1 g t v hv
        rw [Dr] at hv
        obtain ⟨a, xs, rfl, h1, h2⟩ := hv
        exact ⟨a, rfl, ⟨xs, .of (imm_sub _ _ _ _ _ h1)⟩, q α1 H1 g t _ (wd_list h1 h2.nil_any)⟩⟩
    | tup es =>
      cases hw
      refine .inr (.inl ⟨P, α, e, s, hS, by
        rw [hm]
        intro α1 H1 g t v hv
        rw [Dr] at hv
        obtain ⟨a, xs, rfl, h1, h2⟩ := hv
        exact ⟨a, rfl, ⟨xs, .of (imm_sub _ _ _ _ _ h1)⟩, q α1 H1 g t _ (wd_tup h1 h2)⟩⟩)
    | str z =>
      cases hw
      refine .inr (.inr ⟨P, α, e, s, hS, by
        rw [hm]
        intro α1 H1 g t v hv
        rw [Dr] at hv
        subst hv
        exact ⟨_, rfl, q α1 H1 g t _ wd_str⟩⟩)
    | _ => cases hw
theorem im_rev {e : Expr} {m : Mini.M} (hg : Gl X "reversed") (hmg : X.mg "reversed" = none) (h : PE X e (tM X.K E m)) (hs : starEach [e] X.env = (false, eval e X.env) :: starEach [] X.env := by rfl) : PI X tg (.Call (.Name "reversed" p) [e] [] pos) (tI X.K E (Mini.iRev m)) := (RT.pi_revA hg hmg h hs).to fun σ H R ⟨P, α, e, s, hS, q⟩ => by
  unfold Mini.iRev at q
  refine ⟨P, α, e, s, hS, ?_⟩
  cases hm : m e s with
  | bad => rw [hm] at q; exact q.elim
  | exc c => rw [hm] at q; exact q
  | ok pr =>
    rw [hm] at q
    obtain ⟨d, s1⟩ := pr
    obtain ⟨ds, hw, q⟩ := Post.unof (f := fun ds => Mini.R.ok (ds, s1)) q
    intro α1 H1 g t v hv
    cases d with
    | lst es =>
      cases hw
      rw [Dr] at hv
      obtain ⟨a, xs, rfl, h1, h2⟩ := hv
      exact ⟨a, xs, rfl, .inl ⟨.of (imm_sub _ _ _ _ _ h1), q α1 H1 g t _ (wd_rev h1 h2.nil_any)⟩⟩
    | tup es =>
      cases hw
      rw [Dr] at hv
      obtain ⟨a, xs, rfl, h1, h2⟩ := hv
      exact ⟨a, xs, rfl, .inr ⟨.of (imm_sub _ _ _ _ _ h1), q α1 H1 g t _ (wd_revT h1 h2)⟩⟩
    | _ => cases hw
theorem im_r1 {e : Expr} {m : Mini.M} (hg : Gl X "range") (hmg : X.mg "range" = none) (h : PE X e (tM X.K E m)) (hs : starEach [e] X.env = [(false, eval e X.env)] := by rfl) : PI X tg (.Call (.Name "range" p) [e] [] pos) (tI X.K E (Mini.iR1 m)) := (pi_range1 hg hmg (pa_cons h pa_nil hs) hs).to fun σ H R ⟨P, α, e, s, hS, q⟩ =>
  ⟨P, α, e, s, hS, (Post.unbind q).imp fun d s1 α1 H1 g1 t1 q1 v hv => by
    cases d <;> simp only at q1 <;> first | exact q1.elim | skip
    rw [Dr] at hv
    subst hv
    obtain ⟨⟨c1, c2⟩, q1⟩ := q1.unite
    exact ⟨_, rfl, c1, c2, q1.here t1 _ wd_rng⟩⟩
theorem im_r2 {e e' : Expr} {m m' : Mini.M} (hg : Gl X "range") (hmg : X.mg "range" = none) (h : PE X e (tM X.K E m)) (h' : PE X e' (tM X.K E m')) (hs : starEach [e, e'] X.env = [(false, eval e X.env), (false, eval e' X.env)] := by rfl) (hs2 : starEach [e'] X.env = [(false, eval e' X.env)] := by rfl) :
    PI X tg (.Call (.Name "range" p) [e, e'] [] pos) (tI X.K E (Mini.iR2 m m')) := (pi_range2 hg hmg (pa_cons h (pa_cons h' pa_nil hs2) (by rw [hs, hs2])) hs hs2).to fun σ H R ⟨P, α, e, s, hS, q⟩ =>
  ⟨P, α, e, s, hS, (Post.unbind q).imp fun d s1 α1 H1 g1 t1 q1 v hv => ⟨P, α1, e, s1, hS.gr g1 t1, (Post.unbind q1).imp fun d2 s2 α2 H2 g2 t2 q2 u hu => by
    dsimp only at q2
    cases d <;> cases d2 <;> simp only at q2 <;> first | exact q2.elim | skip
    rw [Dr] at hv hu
    subst hv; subst hu
    obtain ⟨⟨c1, c2, c3, c4⟩, q2⟩ := q2.unite
    exact ⟨_, _, rfl, ⟨c1, c2, c3, c4⟩, q2.here t2 _ wd_rng⟩⟩⟩
end

/-! ### a comprehension -/
theorem nox_bad {β γ : Type} {r : Mini.R β} {f : β → Mini.R γ} {x : γ} (h : r.nox.bind f = .ok x) : ∃ p, r = .ok p ∧ f p = .ok x := by
  cases r with
  | ok p => exact ⟨p, rfl, h⟩
  | exc c => cases h
  | bad => cases h
theorem bind_ok {β γ : Type} {r : Mini.R β} {f : β → Mini.R γ} {x : γ} (h : r.bind f = .ok x) : ∃ p, r = .ok p ∧ f p = .ok x := by
  cases r with
  | ok p => exact ⟨p, rfl, h⟩
  | exc c => cases h
  | bad => cases h
theorem lcF_exc {i : Nat} {t : Mini.T} {m : Mini.M} {e : Mini.Env} : ∀ {ds : List Mini.D} {s : Mini.Sto} {c : Nat}, Mini.lcF i t m e ds s ≠ .exc c
  | [], s, c => by simp [Mini.lcF]
  | d :: ds, s, c => by
    unfold Mini.lcF
    cases t (e.set i (some d)) s with
    | bad => simp [Mini.R.nox]
    | exc c => simp [Mini.R.nox]
    | ok p =>
      simp only [Mini.R.nox_ok, Mini.R.bind_ok]
      split
      · cases m (e.set i (some d)) p.2 with
        | bad => simp [Mini.R.nox]
        | exc c => simp [Mini.R.nox]
        | ok q =>
          simp only [Mini.R.nox_ok, Mini.R.bind_ok]
          split
          · cases h : Mini.lcF i t m e ds q.2 with
            | bad => simp
            | exc c => exact absurd h lcF_exc
            | ok r => simp
          · simp
      · exact lcF_exc
section
variable {K : PySem.W.Frag} {P α α' : List Addr} {s : Mini.Sto} {H H' : Hp}
theorem Post.ok_of {E : XC} {β : Type} {r : Mini.R (β × Mini.Sto)} {x : β × Mini.Sto} {k : β → Mini.Sto → List Addr → Hp → Prop} (h : r = .ok x) (f : ∀ α1 H1, Gr P α H α1 H1 → StR K P α1 x.2 H1 → k x.1 x.2 α1 H1) : Post K E P α H r k := by
  subst h; exact f
end
section
variable {X : Cx} {E : XC} {pos : Pos}
/-- one more protected address -/
theorem StR.prot {K : PySem.W.Frag} {P α : List Addr} {s : Mini.Sto} {H : Hp} (h : StR K P α s H) {D : Addr} {o : HO} (hD : H D = none) : StR K (D :: P) α s (upd H D o) := by
  have n1 : D ∉ P := fun z => h.pt D z hD
  have n2 : D ∉ α := fun z => h.there z hD
  have x : Ext (imm H P α) (imm (upd H D o) (D :: P) α) := fun b u q => by
    rw [imm_some] at q ⊢
    have : b ≠ D := ne_of_none q.2.2 hD
    exact ⟨by simp [this, q.1], q.2.1, by rw [upd_ne this]; exact q.2.2⟩
  refine ⟨h.nd, fun a ha => ?_, fun b hb => ?_, h.len, fun k u a h1 h2 => ?_⟩
  · have : a ≠ D := fun z => n2 (z ▸ ha)
    simp [this, h.dis a ha]
  · by_cases hb2 : b = D
    · subst hb2; rw [upd_same]; simp
    · rw [upd_ne hb2]
      rcases List.mem_cons.mp hb with z | z
      · exact absurd z hb2
      · exact h.pt b z
  · have ha : a ∈ α := List.mem_of_getElem? h2
    rw [upd_ne (show a ≠ D from fun z => n2 (z ▸ ha))]
    exact (h.ob k u a h1 h2).mono x
/-- the protected list grows by the machine's own hand -/
theorem StR.grow {K : PySem.W.Frag} {P α : List Addr} {s : Mini.Sto} {H : Hp} {D : Addr} (h : StR K (D :: P) α s H) (o : HO) : imm (upd H D o) (D :: P) α = imm H (D :: P) α ∧ StR K (D :: P) α s (upd H D o) := by
  have ei : imm (upd H D o) (D :: P) α = imm H (D :: P) α := by
    funext b
    unfold imm
    split
    · rfl
    · rename_i q
      rw [upd_ne (show b ≠ D from fun z => q (.inl (by simp [z])))]
  refine ⟨ei, h.nd, h.dis, fun b hb => ?_, h.len, fun k u a h1 h2 => ?_⟩
  · by_cases hb2 : b = D
    · subst hb2; rw [upd_same]; simp
    · rw [upd_ne hb2]; exact h.pt b hb
  · have ha : a ∈ α := List.mem_of_getElem? h2
    have : a ≠ D := fun z => h.dis a ha (by simp [z])
    rw [upd_ne this, ei]
    exact h.ob k u a h1 h2
/-- the comprehension's state ahead of turn j -/
structure Lc (K : PySem.W.Frag) (P α1 : List Addr) (H1 : Hp) (D : Addr) (i : Nat) (t : Mini.T) (m : Mini.M) (e : Mini.Env) (ds : List Mini.D) (tot : Mini.R (List Mini.D × Mini.Sto)) (j : Nat) (α : List Addr) (s : Mini.Sto) (xs : List V) (ys : List Mini.D) (H : Hp) : Prop where
  st : StR K (D :: P) α s H
  pre : ∀ (k : Nat) a, α1[k]? = some a → α[k]? = some a
  ext : Ext (imm H1 P α1) (imm H (D :: P) α)
  keep : ∀ b ∈ P, ∀ o, H1 b = some o → H b = some o
  at' : H D = some (.lst xs)
  len : xs.length ≤ j
  dr : DrL K (imm H (D :: P) α) [] ys xs
  tot : tot = (Mini.lcF i t m e (ds.drop j) s).bind fun r => .ok (ys ++ r.1, r.2)
theorem EnvR.mono {K : PySem.W.Frag} {G G' : Hp} {α α' : List Addr} {e : Mini.Env} {σ : L2.St} (h : EnvR K G α e σ) (x : Ext G G') (p : ∀ (k : Nat) a, α[k]? = some a → α'[k]? = some a) : EnvR K G' α' e σ :=
  ⟨h.1, fun i d q => let ⟨v, h1, h2⟩ := h.2 i d q; ⟨v, h1, h2.mono x p⟩⟩
theorem StR.unprot {K : PySem.W.Frag} {P α : List Addr} {s : Mini.Sto} {H : Hp} {D : Addr} (h : StR K (D :: P) α s H) : Ext (imm H (D :: P) α) (imm H P α) ∧ StR K P α s H := by
  have x : Ext (imm H (D :: P) α) (imm H P α) := fun b o q => by
    rw [imm_some] at q ⊢
    exact ⟨fun z => q.1 (List.mem_cons_of_mem _ z), q.2⟩
  exact ⟨x, h.nd, fun a ha z => h.dis a ha (List.mem_cons_of_mem _ z), fun b hb => h.pt b (List.mem_cons_of_mem _ hb), h.len, fun k u a h1 h2 => (h.ob k u a h1 h2).mono x⟩
theorem bind_id {β γ : Type} (r : Mini.R (List β × γ)) : (r.bind fun r => .ok ([] ++ r.1, r.2)) = r := by cases r <;> rfl
theorem bind_app {β γ : Type} (r : Mini.R (List β × γ)) (ys : List β) (y : β) : ((r.bind fun r => .ok (y :: r.1, r.2)).bind fun r => .ok (ys ++ r.1, r.2)) = r.bind fun r => .ok ((ys ++ [y]) ++ r.1, r.2) := by cases r <;> simp
theorem lc_to {i : Nat} {mi : Mini.A} {t : Mini.T} {m : Mini.M} : ∀ σ H Q, tM X.K E (Mini.mLc i mi t m) σ H Q → tLc (tI X.K E mi) (gName i) (tT X.K E00 t) (tM X.K E00 m) [i] σ H Q := by
  rintro σ H Q ⟨P, α, e, s, hS, q⟩
  refine ⟨P, α, e, s, hS, (Post.unbind q).imp fun ds s1 α1 H1 g1 t1 q1 J hJ D hD => ?_⟩
  obtain ⟨hl, q1⟩ := q1.unite
  dsimp only at hl q1
  have nP : D ∉ P := fun z => t1.pt D z hD
  refine lc_it hJ (fun j Hj => ∃ αj sj xs ys, Lc X.K P α1 H1 D i t m e ds (Mini.lcF i t m e ds s1) j αj sj xs ys Hj) ?_ ?_ ?_ ?_
  · refine ⟨α1, s1, [], [], t1.prot hD, fun _ _ q => q, fun b o q => ?_, fun b hb o q => by rw [upd_ne (ne_of_none q hD)]; exact q, upd_same, Nat.le_refl _, by simp [DrL], by rw [List.drop_zero, bind_id]⟩
    rw [imm_some] at q ⊢
    have : b ≠ D := ne_of_none q.2.2 hD
    exact ⟨by simp [this, q.1], q.2.1, by rw [upd_ne this]; exact q.2.2⟩
  · rintro j Hj _ ⟨αj, sj, xs, ys, L⟩
    exact L.ext.trans (imm_sub _ _ _)
  · rintro j v Hj Hj' hj ⟨αj, sj, xs, ys, L⟩ ⟨rfl, d, hd, hdv⟩
    have hw : (wipe σ [i]).set i (some v) = σ.set i (some v) := by simp [wipe, List.set_set]
    show wipe ((wipe σ [i]).set i (some v)) [i] = wipe σ [i] ∧ _
    refine ⟨by simp [wipe, List.set_set], ?_⟩
    rw [hw]
    have hdrop : ds.drop j = d :: ds.drop (j + 1) := by
      obtain ⟨h1, h2⟩ := List.getElem?_eq_some_iff.mp hd
      rw [← h2]
      exact List.drop_eq_getElem_cons h1
    have ht := L.tot
    rw [hdrop, Mini.lcF] at ht
    cases htot : Mini.lcF i t m e ds s1 with
    | bad => rw [htot] at q1; exact q1.elim
    | exc c => exact absurd htot lcF_exc
    | ok r =>
      rw [htot] at ht
      obtain ⟨r0, hr0, hr1⟩ := bind_ok ht.symm
      obtain ⟨p, hp, hr0⟩ := nox_bad hr0
      have env1 : EnvR X.K (imm Hj' (D :: P) αj) αj (e.set i (some d)) (σ.set i (some v)) := ((hS.env.gr g1).mono L.ext L.pre).set (hdv.mono L.ext L.pre)
      refine ⟨D :: P, αj, e.set i (some d), sj, ⟨L.st, env1⟩, Post.ok_of hp fun α2 H2 g2 t2 => ?_⟩
      have D2 : H2 D = some (.lst xs) := g2.keep D List.mem_cons_self _ L.at'
      split at hr0
      · rename_i hb
        dsimp only
        rw [if_pos hb]
        obtain ⟨y, hy, hr0⟩ := nox_bad hr0
        split at hr0
        · rename_i hck
          refine ⟨D :: P, α2, e.set i (some d), p.2, ⟨t2, env1.gr g2⟩, Post.ok_of hy fun α3 H3 g3 t3 u hu => ?_⟩
          have D3 : H3 D = some (.lst xs) := g3.keep D List.mem_cons_self _ D2
          obtain ⟨e1, t4⟩ := t3.grow (.lst (xs ++ [u]))
          have hl' : ds.length ≤ 16777216 := hl
          refine ⟨xs, D3, slt (by have := L.len; omega), α3, y.2, xs ++ [u], ys ++ [y.1], t4, fun k a z => g3.pre k a (g2.pre k a (L.pre k a z)), ?_, fun b hb' o z => ?_, upd_same, by simp; exact L.len, ?_, ?_⟩
          · rw [e1]; exact L.ext.trans (g2.ext.trans g3.ext)
          · rw [upd_ne (show b ≠ D from fun w => nP (w ▸ hb'))]
            exact g3.keep b (List.mem_cons_of_mem _ hb') o (g2.keep b (List.mem_cons_of_mem _ hb') o (L.keep b hb' o z))
          · rw [e1]
            refine (DrL.mono (g2.ext.trans g3.ext) (fun _ _ q => q) L.dr).append ?_
            have := t3.chk (ds := [y.1]) (xs := [u]) hck (by simp only [DrL]; exact ⟨hu, trivial⟩)
            exact this
          · rw [ht, hp]
            simp only [Mini.R.nox_ok, Mini.R.bind_ok, hb, if_true, hy, hck]
            exact bind_app _ _ _
        · cases hr0
      · rename_i hb
        dsimp only
        rw [if_neg hb]
        refine ⟨α2, p.2, xs, ys, t2, fun k a z => g2.pre k a (L.pre k a z), L.ext.trans g2.ext, fun b hb' o z => g2.keep b (List.mem_cons_of_mem _ hb') o (L.keep b hb' o z), D2, by have := L.len; omega, DrL.mono g2.ext (fun _ _ q => q) L.dr, ?_⟩
        rw [ht, hp]
        simp only [Mini.R.nox_ok, Mini.R.bind_ok, hb, if_false]
        rfl
  · rintro Hn ⟨αn, sn, xs, ys, L⟩
    have ht := L.tot
    rw [List.drop_length, Mini.lcF] at ht
    simp only [Mini.R.bind_ok, List.append_nil] at ht
    rw [ht] at q1
    obtain ⟨x1, t5⟩ := L.st.unprot
    refine q1 αn Hn ⟨L.pre, L.ext.trans x1, L.keep⟩ t5 _ ?_
    rw [Dr]
    exact ⟨D, xs, rfl, imm_some.mpr ⟨nP, fun z => L.st.dis D z List.mem_cons_self, L.at'⟩, DrL.mono x1 (fun _ _ q => q) L.dr⟩
theorem pm_lc {elt tg iter : Expr} {ifs : List Expr} {scope : Scope} {x : Str} {i : Nat} {mi : Mini.A} {t : Mini.T} {m : Mini.M} (hc : X.calm = true) (hN : X.N.Nodup) (hi : PI X tg iter (tI X.K E mi)) (ok : BlkOk X.N X.env.scope scope [(x, i)])
    (hg : ∀ (s : Shared) (H : Hp) (C : Addr) (cl : List (Str × Addr)) (fp : List Addr), PG (X.blk s H scope (compEnvC scope cl C X.env) fp) tg (gName i)) (ht : ∀ (s : Shared) (H : Hp) (C : Addr) (cl : List (Str × Addr)) (fp : List Addr), PTs (X.blk s H scope (compEnvC scope cl C X.env) fp) ifs (tT X.K E00 t))
    (he : ∀ (s : Shared) (H : Hp) (C : Addr) (cl : List (Str × Addr)) (fp : List Addr), PE (X.blk s H scope (compEnvC scope cl C X.env) fp) elt (tM X.K E00 m)) (hs : ∀ x, foldedSetIterable iter X.env x = pure x := by intro _; rfl) :
    PE X (.ListComp elt [⟨tg, iter, ifs, 0⟩] scope pos) (tM X.K E (Mini.mLc i mi t m)) := (pe_lc hc hN hi ok hg ht he hs).to lc_to
theorem sm_setLc {elt tg iter : Expr} {ifs : List Expr} {scope : Scope} {x y : Str} {i j : Nat} {mi : Mini.A} {t : Mini.T} {m : Mini.M} {py spos : Pos} (hy : X.N[j]? = some y) (hyl : X.env.scope.names.lookup y = some .local)
    (hsw : swapsWith (.ListComp elt [⟨tg, iter, ifs, 0⟩] scope pos) (some (.Name y py)) spos.line X.env = pure true)
    (hc : X.calm = true) (hN : X.N.Nodup) (hi : PI X tg iter (tI X.K E mi)) (ok : BlkOk X.N X.env.scope scope [(x, i)])
    (hg : ∀ (s : Shared) (H : Hp) (C : Addr) (cl : List (Str × Addr)) (fp : List Addr), PG (X.blk s H scope (compEnvC scope cl C X.env) fp) tg (gName i)) (ht : ∀ (s : Shared) (H : Hp) (C : Addr) (cl : List (Str × Addr)) (fp : List Addr), PTs (X.blk s H scope (compEnvC scope cl C X.env) fp) ifs (tT X.K E00 t))
    (he : ∀ (s : Shared) (H : Hp) (C : Addr) (cl : List (Str × Addr)) (fp : List Addr), PE (X.blk s H scope (compEnvC scope cl C X.env) fp) elt (tM X.K E00 m)) (hs : ∀ x, foldedSetIterable iter X.env x = pure x := by intro _; rfl) :
    PS X (.Assign [.Name y py] (.ListComp elt [⟨tg, iter, ifs, 0⟩] scope pos) spos) (tS X.K E (Mini.sSet j (Mini.mLc i mi t m))) :=
  (ps_setLc hc hN hy hyl hsw hi ok hg ht he hs).to fun D σ H ⟨P, α, e, s, hS, q⟩ => lc_to (X := X) (E := E) σ H _ ⟨P, α, e, s, hS, (Post.unbind q).imp fun d s1 α1 H1 g1 t1 q1 v hv => by
    show D.nx (σ.set j (some v)) H1
    exact q1.here t1 _ ((hS.gr g1 t1).set hv)⟩
theorem sts_nil : PTs X [] (tT X.K E Mini.tYes) := ⟨fun pins s σ H Q I ⟨P, α, e, s', hS, q⟩ => pts_nil.run pins s σ H Q I (q.here hS.st)⟩
theorem sts_one {c : Expr} {t : Mini.T} (h : PT X c (tT X.K E t)) : PTs X [c] (tT X.K E t) := pts_one h

/-! ### statements -/
variable {st : Stmt} {rest : List Stmt} {e : Expr}
theorem ss_nil : PSs X [] (tS X.K E Mini.sNil) := pss_nil.to fun D σ H ⟨P, α, e, s, hS, q⟩ => q.here hS.st σ hS
theorem ss_cons {m1 m2 : Mini.S} (h1 : PS X st (tS X.K E m1)) (h2 : PSs X rest (tS X.K E m2)) : PSs X (st :: rest) (tS X.K E (Mini.sCons m1 m2)) := (pss_cons h1 h2).to fun D σ H ⟨P, α, e, s, hS, q⟩ =>
  ⟨P, α, e, s, hS, (Post.unbind q).imp fun o s1 α1 H1 g1 t1 q1 => by
    cases o with
    | nx e' => exact fun σ' hS' => ⟨P, α1, e', s1, hS', q1⟩
    | rt d => exact q1.here t1
    | bk e' => exact q1.here t1
    | ct e' => exact q1.here t1⟩
theorem ss_one {m1 : Mini.S} (h1 : PS X st (tS X.K E m1)) : PSs X [st] (tS X.K E m1) := pss_one h1
theorem sm_pass : PS X (.Pass pos) (tS X.K E Mini.sPs) := ps_pass.to fun D σ H ⟨P, α, e, s, hS, q⟩ => q.here hS.st σ hS
theorem sm_ct : PS X (.Continue pos) (tS X.K E Mini.sCt) := ps_continue.to fun D σ H ⟨P, α, e, s, hS, q⟩ => q.here hS.st σ hS
theorem sm_bk : PS X (.Break pos) (tS X.K E Mini.sBk) := ps_break.to fun D σ H ⟨P, α, e, s, hS, q⟩ => q.here hS.st σ hS
theorem sm_bad : PS X st (tS X.K E Mini.sBad) := ps_never.to fun D σ H ⟨P, α, e, s, hS, q⟩ => q
theorem sm_doc {z : Str} {j : Nat} {p2 : Pos} : PS X (.Expr (.Constant (.str z) j pos) p2) (tS X.K E Mini.sPs) := ps_doc.to fun D σ H ⟨P, α, e, s, hS, q⟩ => q.here hS.st σ hS
theorem sm_ex {m : Mini.M} (h : PE X e (tM X.K E m)) (hs : swapsWith e none pos.line X.env = pure false := by rfl) : PS X (.Expr e pos) (tS X.K E (Mini.sEx m)) := (ps_expr h hs).to fun D σ H ⟨P, α, e, s, hS, q⟩ =>
  ⟨P, α, e, s, hS, (Post.unbind q).imp fun d s1 α1 H1 g1 t1 q1 v hv => q1.here t1 σ (hS.gr g1 t1)⟩
theorem sm_ret {m : Mini.M} (h : PE X e (tM X.K E m)) : PS X (.Return (some e) pos) (tS X.K E (Mini.sRet m)) := (ps_ret h).to fun D σ H ⟨P, α, e, s, hS, q⟩ =>
  ⟨P, α, e, s, hS, (Post.unbind q).imp fun d s1 α1 H1 g1 t1 q1 v hv => q1.here t1 v hv⟩
theorem sm_if {c : Expr} {a b : List Stmt} {t : Mini.T} {m1 m2 : Mini.S} (hc : PT X c (tT X.K E t)) (ha : PSs X a (tS X.K E m1)) (hb : PSs X b (tS X.K E m2)) : PS X (.If c a b pos) (tS X.K E (Mini.sIf t m1 m2)) := (ps_if hc ha hb).to fun D σ H ⟨P, α, e, s, hS, q⟩ =>
  ⟨P, α, e, s, hS, (Post.unbind q).imp fun d s1 α1 H1 g1 t1 q1 => by
    dsimp only at q1 ⊢
    split
    · rename_i hk
      simp only [hk, if_true] at q1
      exact ⟨P, α1, e, s1, hS.gr g1 t1, q1⟩
    · rename_i hk
      simp only [hk, if_false] at q1
      exact ⟨P, α1, e, s1, hS.gr g1 t1, q1⟩⟩
theorem sm_set {x : Str} {i : Nat} {p : Pos} {m : Mini.M} (hN : X.N.Nodup) (hi : X.N[i]? = some x) (hx : Loc X.env.scope x) (h : PE X e (tM X.K E m)) (hf : X.fn x = true ∨ X.env.scope.names.lookup x = some .local := by first | exact .inl rfl | exact .inr rfl | assumption)
    (hs : swapsWithSole [.Name x p] e pos.line X.env = pure false := by rfl) (hw : swappedStores [.Name x p] e X.env = pure none := by rfl) (h1 : (assignEach [.Name x p] X.env).map (·.2) = [assign (.Name x p) X.env] := by rfl) :
    PS X (.Assign [.Name x p] e pos) (tS X.K E (Mini.sSet i m)) := (ps_asg h (pg_name hN hi hx hf) hs hw h1).to fun D σ H ⟨P, α, e, s, hS, q⟩ =>
  ⟨P, α, e, s, hS, (Post.unbind q).imp fun d s1 α1 H1 g1 t1 q1 v hv => by
    show D.nx (σ.set i (some v)) H1
    exact q1.here t1 _ ((hS.gr g1 t1).set hv)⟩
/-- x = [a, b, ..], ours alone from here on -/
theorem sm_ownL {x : Str} {i : Nat} {p p2 : Pos} {es : List Expr} {ma : Mini.A} (hN : X.N.Nodup) (hi : X.N[i]? = some x) (hx : Loc X.env.scope x) (h : PA X es (tA X.K E ma)) (hf : X.fn x = true ∨ X.env.scope.names.lookup x = some .local := by first | exact .inl rfl | exact .inr rfl | assumption)
    (hs : swapsWithSole [.Name x p] (.List es p2) pos.line X.env = pure false := by rfl) (hw : swappedStores [.Name x p] (.List es p2) X.env = pure none := by rfl) (h1 : (assignEach [.Name x p] X.env).map (·.2) = [assign (.Name x p) X.env] := by rfl) :
    PS X (.Assign [.Name x p] (.List es p2) pos) (tS X.K E (Mini.sOwnL i ma)) := (ps_asg (pe_lst h) (pg_name hN hi hx hf) hs hw h1).to fun D σ H ⟨P, α, e, s, hS, q⟩ =>
  ⟨P, α, e, s, hS, (Post.unbind q).imp fun ds s1 α1 H1 g1 t1 q1 vs hvs => by
    obtain ⟨⟨hl, hfr⟩, q1⟩ := q1.unite
    refine ⟨l100 (by rw [← hvs.len]; exact hl), fun p hp => ?_⟩
    obtain ⟨g2, t2, el⟩ := t1.newOwn (o := .L ds) (ho := .lst vs) hp ⟨vs, rfl, DrL.free hfr hvs⟩
    show D.nx (σ.set i (some (.ref p))) _
    exact q1 _ _ g2 t2 _ (((hS.gr g1 t1).gr g2 t2).set (by rw [Dr]; exact ⟨p, el, rfl⟩))⟩
/-! ### o[i] = v -/
def rSetD : V → V → V → Hp → (Hp → Prop) → Prop := fun o i v H Q => ∃ a H4, o = .ref a ∧ DPut H a i v H4 ∧ Q H4
theorem set_dict (hu : X.A.units + 64 < cLine) : PSet X rSetD := by
  intro pins s σ H o i v ov iv u Q I ro ri rv h
  obtain ⟨a, H4, rfl, g, q⟩ := h
  obtain rfl : ov = Value.ref a := ro
  exact d_setItem (by omega) I g ri rv fun s4 I4 => ⟨H4, I4, q⟩
theorem set_any (hu : X.A.units + 64 < cLine) : PSet X (fun o i v H Q => rSetL o i v H Q ∨ rSetD o i v H Q) := by
  intro pins s σ H o i v ov iv u Q I ro ri rv h
  rcases h with h | h
  · exact set_list pins s σ H o i v ov iv u Q I ro ri rv h
  · exact set_dict hu pins s σ H o i v ov iv u Q I ro ri rv h
theorem putDI (ks : List Int) (j : Int) : putK (ks.map fun k => ((Sum.inl k : Key), V.bl true)) (Sum.inl j) (.bl true) = (if j ∈ ks then ks else ks ++ [j]).map fun k => ((Sum.inl k : Key), V.bl true) := by
  by_cases h : j ∈ ks
  · rw [if_pos h]
    unfold putK
    have : ((ks.map fun k => ((Sum.inl k : Key), V.bl true)).any fun kv => decide (kv.1 = Sum.inl j)) = true := by simp [List.any_eq_true, h]
    rw [if_pos this, List.map_map]
    apply List.map_congr_left
    intro k hk
    simp
  · have hn : valV (ks.map fun k => ((Sum.inl k : Key), V.bl true)) (Sum.inl j) = none := by
      have := valDI ks j
      rw [decide_eq_false h] at this
      simpa using this
    rw [if_neg h, putK_new _ hn, List.map_append]
    rfl
theorem putDT (ks : List (List Int)) (j : List Int) : putK (ks.map fun k => ((k.map Sum.inl : List Key), V.bl true)) (j.map Sum.inl) (.bl true) = (if j ∈ ks then ks else ks ++ [j]).map fun k => ((k.map Sum.inl : List Key), V.bl true) := by
  by_cases h : j ∈ ks
  · rw [if_pos h]
    unfold putK
    have : ((ks.map fun k => ((k.map Sum.inl : List Key), V.bl true)).any fun kv => decide (kv.1 = j.map Sum.inl)) = true := by
      rw [List.any_eq_true]
      exact ⟨(j.map Sum.inl, .bl true), List.mem_map.mpr ⟨j, h, rfl⟩, by simp⟩
    rw [if_pos this, List.map_map]
    apply List.map_congr_left
    intro k hk
    simp
  · have hn : valV (ks.map fun k => ((k.map Sum.inl : List Key), V.bl true)) (j.map Sum.inl) = none := by
      have := valDT ks j
      rw [decide_eq_false h] at this
      simpa using this
    rw [if_neg h, putK_new _ hn, List.map_append]
    rfl
theorem sm_put {o i : Expr} {p : Pos} {mo mi mv : Mini.M} (hu : X.A.units + 64 < cLine) (ho : PE X o (tM X.K E mo)) (hi : PE X i (tM X.K E mi)) (hv : PE X e (tM X.K E mv))
    (ha : ∀ v, assign (.Subscript o i p) X.env v = (do
      let ov ← holding [v] (eval o X.env)
      let iv ← holding [v, ov] (eval i X.env)
      standAt p
      holding [v, ov, iv] (setItem ov iv v)
      release [v, ov, iv] []) := by intro _; rfl)
    (hs : swapsWithSole [.Subscript o i p] e pos.line X.env = pure false := by rfl) (hw : swappedStores [.Subscript o i p] e X.env = pure none := by rfl) (h1 : (assignEach [.Subscript o i p] X.env).map (·.2) = [assign (.Subscript o i p) X.env] := by rfl) :
    PS X (.Assign [.Subscript o i p] e pos) (tS X.K E (Mini.sPut mo mi mv)) := (ps_asg hv (pg_sub ho hi (set_any hu) ha) hs hw h1).to fun D σ H ⟨P, α, e, s, hS, q⟩ =>
  ⟨P, α, e, s, hS, (Post.unbind q).imp fun d s1 α1 H1 g1 t1 q1 v hv => ⟨P, α1, e, s1, hS.gr g1 t1, (Post.unbind q1).imp fun d2 s2 α2 H2 g2 t2 q2 v2 hv2 => ⟨P, α2, e, s2, hS.gr (g1.trans g2) t2, (Post.unbind q2).imp fun d3 s3 α3 H3 g3 t3 q3 v3 hv3 => by
    dsimp only at q3
    cases d2 <;> simp only at q3 <;> first | exact q3.elim | skip
    rename_i k
    obtain ⟨s', hp, q3⟩ := q3.unof
    have hv' := (g2.trans g3).dr hv
    have ho' := g3.dr hv2
    have fin : ∀ H', Gr P α3 H3 α3 H' → StR X.K P α3 s' H' → D.nx σ H' := fun H' g4 t4 => q3 α3 H' g4 t4 σ ((hS.gr (g1.trans (g2.trans g3)) t3).gr g4 t4)
    cases hk : s3[k]? with
    | none => simp [Mini.putS, hk] at hp
    | some ob =>
      cases ob with
      | L ds =>
        cases d3 with
        | int j =>
          simp only [Mini.putS, hk] at hp
          obtain ⟨n, hn, hp⟩ := Option.bind_eq_some_iff.mp hp
          split at hp
          · rename_i hfr
            cases hp
            obtain ⟨b, hb, rfl, xs, hx, hd⟩ := own_ob t3 ho' hk
            rw [Dr] at hv3
            subst hv3
            have r : ObR X.K (imm H3 P α3) (.L (ds.set n d)) (some (.lst (xs.set n v))) := ⟨_, rfl, hd.set n (Dr.free hfr hv')⟩
            obtain ⟨g4, t4⟩ := t3.chg hb (List.getElem?_eq_some_iff.mp hk).1 r
            exact .inl ⟨b, xs, j, n, rfl, rfl, hx, by rw [← hd.len]; exact hn, fin _ g4 t4⟩
          · cases hp
        | _ => simp [Mini.putS, hk] at hp
      | DI ks =>
        cases d3 with
        | int j =>
          cases d with
          | bl b0 =>
            cases b0 with
            | false => simp [Mini.putS, hk] at hp
            | true =>
              simp only [Mini.putS, hk] at hp
              split at hp
              · rename_i hl
                cases hp
                obtain ⟨b, hb, rfl, hx⟩ := own_ob t3 ho' hk
                simp only [Dr] at hv3 hv'
                subst hv3; subst hv'
                rw [ObR] at hx
                obtain ⟨g4, t4⟩ := t3.chg (o := .DI (if j ∈ ks then ks else ks ++ [j])) hb (List.getElem?_eq_some_iff.mp hk).1 (by rw [ObR])
                refine .inr ⟨b, _, rfl, DPut.k (k := Sum.inl j) hx (by simp; exact slt hl), ?_⟩
                rw [putDI]
                exact fin _ g4 t4
              · cases hp
          | _ => simp [Mini.putS, hk] at hp
        | _ => simp [Mini.putS, hk] at hp
      | DT ks =>
        cases d3 with
        | tup ds =>
          cases d with
          | bl b0 =>
            cases b0 with
            | false => simp [Mini.putS, hk] at hp
            | true =>
              simp only [Mini.putS, hk] at hp
              obtain ⟨js, hj, hp⟩ := Option.bind_eq_some_iff.mp hp
              split at hp
              · rename_i hl
                cases hp
                obtain ⟨b, hb, rfl, hx⟩ := own_ob t3 ho' hk
                simp only [Dr] at hv3 hv'
                obtain ⟨a, xs, rfl, h3, h4⟩ := hv3
                subst hv'
                rw [ObR] at hx
                have hxs := h4.zints hj
                subst hxs
                obtain ⟨g4, t4⟩ := t3.chg (o := .DT (if js ∈ ks then ks else ks ++ [js])) hb (List.getElem?_eq_some_iff.mp hk).1 (by rw [ObR])
                refine .inr ⟨b, _, rfl, DPut.t (k := js.map Sum.inl) hx (by rw [kV_ints]; exact imm_sub _ _ _ _ _ h3) (by simp; exact slt hl), ?_⟩
                rw [putDT]
                exact fin _ g4 t4
              · cases hp
          | _ => simp [Mini.putS, hk] at hp
        | _ => simp [Mini.putS, hk] at hp⟩⟩⟩
/-! ### loops -/
theorem sm_for {tg iter : Expr} {body : List Stmt} {i : Nat} {mi : Mini.A} {m : Mini.S} (hp : PassesOwn (model X.prog X.w) X.A X.env X.xe) (hc : X.calm = true) (hi : PI X tg iter (tI X.K E mi)) (hg : PG X tg (gName i)) (hb : PSs X body (tS X.K E m))
    (hs : ∀ x, foldedSetIterable iter X.env x = pure x := by intro _; rfl) : PS X (.For tg iter body [] pos) (tS X.K E (Mini.sFor i mi m)) := (ps_for hp hc hi hg hb hs).to fun D σ H ⟨P, α, e, s, hS, q⟩ =>
  ⟨P, α, e, s, hS, (Post.unbind q).imp fun ds s1 α1 H1 g1 t1 q1 J hJ => by
    dsimp only at q1
    refine for_it hJ (fun j σ H => ∃ α' e' s', SR X.K P α' e' s' σ H ∧ Gr P α1 H1 α' H ∧ Post X.K E P α' H (Mini.forF i m (ds.drop j) e' s') (endK X.K P D)) ?_ ?_ ?_ ?_
    · exact ⟨α1, e, s1, hS.gr g1 t1, Gr.refl _ _ _, by rw [List.drop_zero]; exact q1⟩
    · rintro j σ' H' _ ⟨α', e', s', _, g, _⟩
      exact g.ext.trans (imm_sub _ _ _)
    · rintro j v σ' H' H'' hj ⟨α', e', s', hS', g, q'⟩ ⟨rfl, d, hd, hdv⟩
      have hdrop : ds.drop j = d :: ds.drop (j + 1) := by
        obtain ⟨h1, h2⟩ := List.getElem?_eq_some_iff.mp hd
        rw [← h2]
        exact List.drop_eq_getElem_cons h1
      rw [hdrop, Mini.forF] at q'
      show tS X.K E m _ (σ'.set i (some v)) H''
      refine ⟨P, α', e'.set i (some d), s', hS'.set (g.dr hdv), (Post.unbind q').imp fun o s2 α2 H2 g2 t2 q2 => ?_⟩
      cases o with
      | nx e2 => exact fun σ2 hS2 => ⟨α2, e2, s2, hS2, g.trans g2, q2⟩
      | ct e2 => exact fun σ2 hS2 => ⟨α2, e2, s2, hS2, g.trans g2, q2⟩
      | bk e2 => exact q2.here t2
      | rt d2 => exact q2.here t2
    · rintro σ' H' ⟨α', e', s', hS', g, q'⟩
      rw [List.drop_length, Mini.forF] at q'
      exact q'.here hS'.st σ' hS'⟩
theorem sm_while {c : Expr} {body : List Stmt} {t : Mini.T} {m : Mini.S} (hp : PassesOwn (model X.prog X.w) X.A X.env X.xe) (hc : PT X c (tT X.K E t)) (hb : PSs X body (tS X.K E m)) : PS X (.While c body [] pos) (tS X.K E (Mini.sWhile t m)) := (ps_while hp hc hb).to fun D σ H ⟨P, α, e, s, hS, q⟩ => by
  have hw : ∃ n r, Mini.whF t m n e s = some r ∧ Post X.K E P α H r (endK X.K P D) := by
    by_cases h : ∃ n r, Mini.whF t m n e s = some r
    · obtain ⟨n, r, hr⟩ := h
      exact ⟨n, r, hr, by rw [Mini.sWhile_eq hr] at q; exact q⟩
    · rw [Mini.sWhile_bad_of fun n r hr => h ⟨n, r, hr⟩] at q
      exact q.elim
  obtain ⟨n, r, hr, q⟩ := hw
  refine ⟨fun n σ H => ∃ α e s r, SR X.K P α e s σ H ∧ Mini.whF t m n e s = some r ∧ Post X.K E P α H r (endK X.K P D), ⟨n, α, e, s, r, hS, hr, q⟩, ?_⟩
  rintro n σ H ⟨α, e, s, r, hS, hr, q⟩
  refine ⟨P, α, e, s, hS, ?_⟩
  cases n with
  | zero => cases hr
  | succ n =>
    rw [Mini.whF] at hr
    cases ht : t e s with
    | bad => rw [ht] at hr; cases hr; exact q
    | exc c => rw [ht] at hr; cases hr; exact q
    | ok p =>
      rw [ht] at hr
      obtain ⟨b, s1⟩ := p
      intro α1 H1 g1 t1
      cases b with
      | false =>
        rw [if_neg (by simp)]
        cases hr
        exact q α1 H1 g1 t1 σ (hS.gr g1 t1)
      | true =>
        rw [if_pos rfl]
        dsimp only at hr
        refine ⟨fun σ' H' => ∃ m', m' < n + 1 ∧ ∃ α e s r, SR X.K P α e s σ' H' ∧ Mini.whF t m m' e s = some r ∧ Post X.K E P α H' r (endK X.K P D), fun _ _ z => z, P, α1, e, s1, hS.gr g1 t1, ?_⟩
        cases hm : m e s1 with
        | bad => rw [hm] at hr; cases hr; exact q
        | exc c => rw [hm] at hr; cases hr; exact Post.later (r := Mini.R.exc c) q g1
        | ok p2 =>
          rw [hm] at hr
          obtain ⟨o, s2⟩ := p2
          intro α2 H2 g2 t2
          cases o with
          | nx e2 => exact fun σ2 hS2 => ⟨n, by omega, α2, e2, s2, r, hS2, hr, q.later (g1.trans g2)⟩
          | ct e2 => exact fun σ2 hS2 => ⟨n, by omega, α2, e2, s2, r, hS2, hr, q.later (g1.trans g2)⟩
          | bk e2 => cases hr; exact q α2 H2 (g1.trans g2) t2
          | rt d2 => cases hr; exact q α2 H2 (g1.trans g2) t2
end
end Snd
end
section
namespace Snd
open PySem L2
open PyProof.Rows (envOfC)
/-! ### a def -/
theorem take_get {α : List Addr} {n k : Nat} {a : Addr} (h : (α.take n)[k]? = some a) : k < n ∧ α[k]? = some a := by
  rw [List.getElem?_take] at h
  split at h
  · rename_i hk; exact ⟨hk, h⟩
  · cases h
section
variable {K : PySem.W.Frag} {P α : List Addr} {s : Mini.Sto} {H : Hp}
theorem ext_take (hs : StR K P α s H) (n : Nat) : Ext (imm H P α) (imm H P (α.take n)) := fun b o q => by
  rw [imm_some] at q ⊢
  exact ⟨q.1, fun z => q.2.1 (List.mem_of_mem_take z), q.2.2⟩
theorem StR.take (hs : StR K P α s H) (n : Nat) : StR K P (α.take n) (s.take n) H := by
  refine ⟨hs.nd.sublist (List.take_sublist n α), fun a ha => hs.dis a (List.mem_of_mem_take ha), hs.pt, by simp [hs.len], fun k o a h1 h2 => ?_⟩
  rw [List.getElem?_take] at h1
  split at h1
  · exact (hs.ob k o a h1 (take_get h2).2).mono (ext_take hs n)
  · cases h1
mutual
theorem frz_dr (hs : StR K P α s H) (n : Nat) : ∀ {d d' : Mini.D} {v : V}, Mini.frz n s d = some d' → Dr K (imm H P α) α d v → Dr K (imm H P (α.take n)) (α.take n) d' v
  | .own k, d', v, e, h => by
    rw [Mini.frz] at e
    split at e
    · rename_i hk
      cases e
      rw [Dr] at h ⊢
      obtain ⟨a, h1, h2⟩ := h
      exact ⟨a, by rw [List.getElem?_take, if_pos hk]; exact h1, h2⟩
    · rename_i hk
      cases hk2 : s[k]? with
      | none => rw [hk2] at e; cases e
      | some o =>
        obtain ⟨a, h1, rfl, h2⟩ := own_ob hs h hk2
        have nt : a ∉ α.take n := fun z => by
          obtain ⟨j, hj, e1⟩ := List.getElem_of_mem z
          have hj' : j < n ∧ j < α.length := by simp at hj; omega
          rw [List.getElem_take] at e1
          have e2 := (List.getElem?_eq_some_iff.mp h1).2
          have := (List.getElem_inj hs.nd).mp (e1.trans e2.symm)
          omega
        have np : a ∉ P := hs.dis a (List.mem_of_getElem? h1)
        cases o with
        | L ds =>
          rw [hk2] at e
          cases e
          obtain ⟨xs, hx, hd⟩ := h2
          rw [Dr]
          exact ⟨a, xs, rfl, imm_some.mpr ⟨np, nt, hx⟩, DrL.mono (ext_take hs n) (fun _ _ q => q) hd⟩
        | DT ks =>
          rw [hk2] at e
          cases e
          rw [ObR] at h2
          rw [Dr]
          exact ⟨a, _, rfl, imm_some.mpr ⟨np, nt, h2⟩, by simp⟩
        | DI ks => rw [hk2] at e; cases e
  | .tup ds, d', v, e, h => by
    rw [Mini.frz] at e
    obtain ⟨es, he, rfl⟩ := Option.map_eq_some_iff.mp e
    rw [Dr] at h ⊢
    obtain ⟨a, xs, h1, h2, h3⟩ := h
    exact ⟨a, xs, h1, ext_take hs n _ _ h2, frz_drL hs n he h3⟩
  | .lst ds, d', v, e, h => by
    simp only [Mini.frz] at e
    cases e
    rw [Dr] at h ⊢
    obtain ⟨a, xs, h1, h2, h3⟩ := h
    exact ⟨a, xs, h1, ext_take hs n _ _ h2, DrL.mono (ext_take hs n) (fun _ _ q => q) h3⟩
  | .scr ns, d', v, e, h => by
    simp only [Mini.frz] at e
    cases e
    rw [Dr] at h ⊢
    obtain ⟨a, h1, h2⟩ := h
    exact ⟨a, h1, (ext_take hs n).sqL h2⟩
  | .dic m, d', v, e, h => by
    simp only [Mini.frz] at e
    cases e
    rw [Dr] at h ⊢
    obtain ⟨a, kvs, h1, h2, h3⟩ := h
    exact ⟨a, kvs, h1, ext_take hs n _ _ h2, h3⟩
  | .non, d', v, e, h => by simp only [Mini.frz] at e; cases e; rw [Dr] at h ⊢; exact h
  | .bl _, d', v, e, h => by simp only [Mini.frz] at e; cases e; rw [Dr] at h ⊢; exact h
  | .int _, d', v, e, h => by simp only [Mini.frz] at e; cases e; rw [Dr] at h ⊢; exact h
  | .str _, d', v, e, h => by simp only [Mini.frz] at e; cases e; rw [Dr] at h ⊢; exact h
theorem frz_drL (hs : StR K P α s H) (n : Nat) : ∀ {d d' : List Mini.D} {v : List V}, Mini.frzL n s d = some d' → DrL K (imm H P α) α d v → DrL K (imm H P (α.take n)) (α.take n) d' v
  | [], d', v, e, h => by
    rw [Mini.frzL] at e
    cases e
    cases v with
    | nil => simp [DrL]
    | cons => simp [DrL] at h
  | d :: ds, d', v, e, h => by
    rw [Mini.frzL] at e
    obtain ⟨x, hx, e⟩ := Option.bind_eq_some_iff.mp e
    obtain ⟨xs, hxs, rfl⟩ := Option.map_eq_some_iff.mp e
    cases v with
    | nil => simp [DrL] at h
    | cons v vs =>
      rw [DrL] at h ⊢
      exact ⟨frz_dr hs n hx h.1, frz_drL hs n hxs h.2⟩
end
/-- the body's end is the def's end -/
theorem body_end {E : XC} {names : Nat} {m : Mini.S} {ds : List Mini.D} {Q : VK} (hs : StR K P α s H) (h : Post K E P α H (Mini.runG names m ds s) fun d s' α' H' => ∀ v, Dr K (imm H' P α') α' d v → Q v H') :
    Post K E P α H (m (Mini.ent names ds) s) (endK K P { nx := fun _ H' => Q .non H', rt := Q }) := by
  unfold Mini.runG at h
  cases hm : m (Mini.ent names ds) s with
  | bad => rw [hm] at h; exact h.elim
  | exc c => rw [hm] at h; exact h
  | ok p =>
    rw [hm] at h
    obtain ⟨o, s1⟩ := p
    intro α1 H1 g1 t1
    have pre : α1.take s.length = α := by
      apply List.ext_getElem?
      intro k
      rw [List.getElem?_take]
      split
      · rename_i hk
        have hk' : k < α.length := by rw [← hs.len]; exact hk
        rw [List.getElem?_eq_getElem hk', g1.pre k _ (List.getElem?_eq_getElem hk')]
      · rename_i hk
        rw [List.getElem?_eq_none (by rw [← hs.len]; omega)]
    have g2 : Gr P α H α H1 := ⟨fun _ _ q => q, by have := g1.ext.trans (ext_take t1 s.length); rw [pre] at this; exact this, g1.keep⟩
    have t2 := t1.take s.length
    rw [pre] at t2
    cases o with
    | nx e =>
      simp only [Mini.fin, Mini.R.bind_ok, Mini.frz, Mini.R.of_some] at h
      exact fun σ _ => h α H1 g2 t2 .non (by simp [Dr])
    | rt d =>
      simp only [Mini.fin, Mini.R.bind_ok] at h
      intro v hv
      obtain ⟨d', hd, q⟩ := Post.unof (f := fun d => Mini.R.ok (d, s1.take s.length)) h
      have hv2 := frz_dr t1 s.length hd hv
      rw [pre] at hv2
      exact q α H1 g2 t2 v hv2
    | bk e => simp only [Mini.fin, Mini.R.bind_ok, Mini.R.bind_bad] at h; exact h.elim
    | ct e => simp only [Mini.fin, Mini.R.bind_ok, Mini.R.bind_bad] at h; exact h.elim
end
theorem ent_env {K : PySem.W.Frag} {G : Hp} {α : List Addr} {N : List Str} {ds : List Mini.D} {vs : List V} (h : DrL K G α ds vs) : EnvR K G α (Mini.ent N.length ds) (L2.start N vs) := by
  have hl := h.len
  refine ⟨by simp [Mini.ent, L2.start, hl], fun i d q => ?_⟩
  unfold Mini.ent at q
  by_cases hi : i < ds.length
  · rw [List.getElem?_append_left (by simpa using hi), List.getElem?_map] at q
    obtain ⟨d', h1, h2⟩ := Option.map_eq_some_iff.mp q
    cases h2
    obtain ⟨v, h3, h4⟩ := h.at h1
    refine ⟨v, ?_, h4⟩
    unfold L2.start
    rw [List.getElem?_append_left (by simp; omega), List.getElem?_map, h3]
    rfl
  · rw [List.getElem?_append_right (by simpa using hi)] at q
    rw [List.getElem?_replicate] at q
    split at q <;> cases q
section
variable {P : Program} {w : World} {K : PySem.W.Frag} {mg : Str → Option Value} {base : Heap} {x qual : Str} {st : Stmt} {f : Addr} {fd : FuncData} {N ps : List Str} {k : Nat} {m : Mini.S} {C : Nat → Addr}
/-- φ says no more than ψ -/
def Le (φ ψ : List Mini.D → Mini.R Mini.D) : Prop := ∀ ds, φ ds = .bad ∨ φ ds = ψ ds
def LeG (φ ψ : Mini.F) : Prop := ∀ ds s, φ ds s = .bad ∨ φ ds s = ψ ds s
theorem spP_le {n : Nat} {φ ψ : List Mini.D → Mini.R Mini.D} (h : Le φ ψ) : ∀ vs H Q E, spP K C n φ vs H Q E → spP K C n ψ vs H Q E := fun vs H Q E ⟨hn, P, ds, hP, hd, q⟩ => ⟨hn, P, ds, hP, hd, by
  rcases h ds with z | z
  · rw [z] at q; exact q.elim
  · rw [← z]; exact q⟩
theorem spG_le {n : Nat} {φ ψ : Mini.F} (h : LeG φ ψ) : ∀ vs H Q E, spG K C n φ vs H Q E → spG K C n ψ vs H Q E := fun vs H Q E ⟨hn, P, α, s, ds, hs, hd, q⟩ => ⟨hn, P, α, s, ds, hs, hd, by
  rcases h ds s with z | z
  · rw [z] at q; exact q.elim
  · rw [← z]; exact q⟩
theorem fn_le {CX : CXT} {n : Nat} {φ ψ : List Mini.D → Mini.R Mini.D} (F : FnOk P w K mg base CX k f fd ps (spP K C n ψ)) (h : Le φ ψ) : FnOk P w K mg base CX k f fd ps (spP K C n φ) := F.imp (spP_le h)
theorem fn_leG {CX : CXT} {n : Nat} {φ ψ : Mini.F} (F : FnOk P w K mg base CX k f fd ps (spG K C n ψ)) (h : LeG φ ψ) : FnOk P w K mg base CX k f fd ps (spG K C n φ) := F.imp (spG_le h)
/-- nothing is asked -/
theorem fn_none {CX : CXT} {φ : List Mini.D → Mini.R Mini.D} (h : ∀ ds, φ ds = .bad) : FnOk P w K mg base CX k f fd ps (spP K C ps.length φ) :=
  ⟨fun vs H Q E q => q.1, fun A outer s H args us vs Q E _ _ _ _ q => by obtain ⟨_, P, ds, _, _, q⟩ := q; rw [h ds] at q; exact q.elim⟩
theorem fn_noneG {CX : CXT} {φ : Mini.F} (h : ∀ ds s, φ ds s = .bad) : FnOk P w K mg base CX k f fd ps (spG K C ps.length φ) :=
  ⟨fun vs H Q E q => q.1, fun A outer s H args us vs Q E _ _ _ _ q => by obtain ⟨_, P, α, s, ds, _, _, q⟩ := q; rw [h ds s] at q; exact q.elim⟩
abbrev cx0 (P : Program) (w : World) (K : PySem.W.Frag) (mg : Str → Option Value) (base : Heap) (N : List Str) (qual : Str) (st : Stmt) (f : Addr) (cdv : Value) (A : Around) (outer : List PySem.Env) (s : Shared) (H : Hp) (E : XK) : Cx := (cxOf CX0 P w K mg base N qual (defScope st) f cdv A outer s H E).nox
abbrev cxX (P : Program) (w : World) (K : PySem.W.Frag) (mg : Str → Option Value) (base : Heap) (N : List Str) (qual : Str) (st : Stmt) (f : Addr) (cdv : Value) (A : Around) (outer : List PySem.Env) (s : Shared) (H : Hp) (E : XK) : Cx := cxOf (L2.CX P w) P w K mg base N qual (defScope st) f cdv A outer s H E
/-- a def that has nothing to do with what its callers own, and raises nothing -/
theorem fn_P (F : Fun K x qual st f fd) (S : FnScope N ps (defScope st))
    (body : ∀ cdv A outer s H E, Room k (A.deeper (envOfC qual (defScope st) s.heap.objs.size f cdv)) → PSs (cx0 P w K mg base N qual st f cdv A outer s H E) (defBody st) (tS K E00 m)) :
    FnOk P w K mg base CX0 (k + 1) f fd ps (spP K C ps.length fun ds => (Mini.run N.length m ds).nox) := by
  refine F.ok S (fun vs H Q E q => q.1) fun cdv A outer s H vs Q E hr q => ⟨_, body cdv A outer s H E hr, ?_⟩
  obtain ⟨hn, Pr, ds, hP, hd, q⟩ := q
  have hs : StR K Pr [] [] H := ⟨by simp, by simp, hP, rfl, by simp⟩
  refine ⟨Pr, [], Mini.ent N.length ds, [], ⟨hs, ent_env hd⟩, body_end hs ?_⟩
  dsimp only [Mini.run] at q
  cases h : Mini.runG N.length m ds [] with
  | bad => rw [h] at q; exact q.elim
  | exc c => rw [h] at q; exact q.elim
  | ok p =>
    rw [h] at q
    intro α' H' g t v hv
    have : α' = [] := by
      have e : p.2 = [] := by
        unfold Mini.runG at h
        obtain ⟨p1, _, h⟩ := bind_ok h
        obtain ⟨d, _, h⟩ := bind_ok h
        cases h
        simp
      have := t.len
      rw [e] at this
      exact List.eq_nil_of_length_eq_zero this.symm
    subst this
    exact q v H' g.all hv
theorem fn_G (F : Fun K x qual st f fd) (S : FnScope N ps (defScope st))
    (body : ∀ cdv A outer s H E, Room k (A.deeper (envOfC qual (defScope st) s.heap.objs.size f cdv)) → PSs (cx0 P w K mg base N qual st f cdv A outer s H E) (defBody st) (tS K E00 m)) :
    FnOk P w K mg base CX0 (k + 1) f fd ps (spG K C ps.length fun ds s => (Mini.runG N.length m ds s).nox) := by
  refine F.ok S (fun vs H Q E q => q.1) fun cdv A outer s H vs Q E hr q => ⟨_, body cdv A outer s H E hr, ?_⟩
  obtain ⟨hn, Pr, α, s0, ds, hs, hd, q⟩ := q
  refine ⟨Pr, α, Mini.ent N.length ds, s0, ⟨hs, ent_env hd⟩, body_end hs ?_⟩
  dsimp only at q
  cases h : Mini.runG N.length m ds s0 with
  | bad => rw [h] at q; exact q.elim
  | exc c => rw [h] at q; exact q.elim
  | ok p => rw [h] at q; exact q
/-- .. a def that may raise -/
theorem fn_PX (F : Fun K x qual st f fd) (S : FnScope N ps (defScope st))
    (body : ∀ cdv A outer s H E, Room k (A.deeper (envOfC qual (defScope st) s.heap.objs.size f cdv)) → PSs (cxX P w K mg base N qual st f cdv A outer s H E) (defBody st) (tS K (fun c oe H' => E (.ref (C c)) oe H') m)) :
    FnOk P w K mg base (L2.CX P w) (k + 1) f fd ps (spP K C ps.length (Mini.run N.length m)) := by
  refine F.okX S (fun vs H Q E q => q.1) fun cdv A outer s H vs Q E hr q => ⟨_, body cdv A outer s H E hr, ?_⟩
  obtain ⟨hn, Pr, ds, hP, hd, q⟩ := q
  have hs : StR K Pr [] [] H := ⟨by simp, by simp, hP, rfl, by simp⟩
  refine ⟨Pr, [], Mini.ent N.length ds, [], ⟨hs, ent_env hd⟩, body_end hs ?_⟩
  dsimp only [Mini.run] at q
  cases h : Mini.runG N.length m ds [] with
  | bad => rw [h] at q; exact q.elim
  | exc c =>
    rw [h] at q
    exact fun α' H' g => q H' g.all
  | ok p =>
    rw [h] at q
    intro α' H' g t v hv
    have : α' = [] := by
      have e : p.2 = [] := by
        unfold Mini.runG at h
        obtain ⟨p1, _, h⟩ := bind_ok h
        obtain ⟨d, _, h⟩ := bind_ok h
        cases h
        simp
      have := t.len
      rw [e] at this
      exact List.eq_nil_of_length_eq_zero this.symm
    subst this
    exact q v H' g.all hv
end
/-- how many arguments there are -/
def ALen (a : Mini.A) (n : Nat) : Prop := ∀ e s ds s', a e s = .ok (ds, s') → ds.length = n
theorem alen_nil : ALen Mini.aNil 0 := fun e s ds s' h => by cases h; rfl
theorem alen_cons {m : Mini.M} {a : Mini.A} {n : Nat} (h : ALen a n) : ALen (Mini.aCons m a) (n + 1) := fun e s ds s' q => by
  obtain ⟨p, _, q⟩ := bind_ok q
  obtain ⟨p2, h2, q⟩ := bind_ok q
  cases q
  exact congrArg (· + 1) (h e _ _ _ h2)
end Snd
end
section
namespace Snd
open PySem L2
open PyProof.Rows (envOfC)
/-- a protected list becomes an owned one -/
theorem StR.own {K : PySem.W.Frag} {P α : List Addr} {s : Mini.Sto} {H : Hp} {D : Addr} {xs : List V} {ys : List Mini.D} (h : StR K (D :: P) α s H) (nP : D ∉ P) (hD : H D = some (.lst xs)) (hd : DrL K (imm H (D :: P) α) [] ys xs) :
    imm H P (α ++ [D]) = imm H (D :: P) α ∧ StR K P (α ++ [D]) (s ++ [.L ys]) H ∧ (α ++ [D])[s.length]? = some D := by
  have ei : imm H P (α ++ [D]) = imm H (D :: P) α := by
    funext b
    unfold imm
    by_cases h1 : b ∈ P
    · rw [if_pos (.inl h1), if_pos (.inl (List.mem_cons_of_mem _ h1))]
    · by_cases h2 : b ∈ α
      · rw [if_pos (.inr (List.mem_append_left _ h2)), if_pos (.inr h2)]
      · by_cases h3 : b = D
        · subst h3
          rw [if_pos (.inr (by simp)), if_pos (.inl List.mem_cons_self)]
        · rw [if_neg, if_neg]
          · rintro (h4 | h4)
            · rcases List.mem_cons.mp h4 with h4 | h4
              · exact h3 h4
              · exact h1 h4
            · exact h2 h4
          · rintro (h4 | h4)
            · exact h1 h4
            · rcases List.mem_append.mp h4 with h4 | h4
              · exact h2 h4
              · exact h3 (by simpa using h4)
  have nα : D ∉ α := fun z => h.dis D z List.mem_cons_self
  have el : (α ++ [D])[s.length]? = some D := by rw [h.len]; simp
  refine ⟨ei, ⟨?_, ?_, fun b hb => h.pt b (List.mem_cons_of_mem _ hb), by simp [h.len], fun k o a h1 h2 => ?_⟩, el⟩
  · rw [List.nodup_append]
    exact ⟨h.nd, by simp, fun a ha b hb z => by simp at hb; subst hb; subst z; exact nα ha⟩
  · intro a ha
    rcases List.mem_append.mp ha with ha | ha
    · exact fun z => h.dis a ha (List.mem_cons_of_mem _ z)
    · simp at ha; subst ha; exact nP
  · rw [ei]
    by_cases hk : k < s.length
    · rw [List.getElem?_append_left hk] at h1
      rw [List.getElem?_append_left (by rw [← h.len]; exact hk)] at h2
      exact h.ob k o a h1 h2
    · have hk2 : k < (s ++ [Mini.Ob.L ys]).length := (List.getElem?_eq_some_iff.mp h1).1
      have : k = s.length := by simp at hk2; omega
      subst this
      rw [el] at h2
      cases h2
      simp at h1
      subst h1
      exact ⟨xs, hD, hd⟩
section
variable {X : Cx} {E : XC} {pos : Pos}
theorem lc_toO {i : Nat} {mi : Mini.A} {t : Mini.T} {m : Mini.M} : ∀ σ H Q, tM X.K E (Mini.mLcO i mi t m) σ H Q → tLc (tI X.K E mi) (gName i) (tT X.K E00 t) (tM X.K E00 m) [i] σ H Q := by
  rintro σ H Q ⟨P, α, e, s, hS, q⟩
  refine ⟨P, α, e, s, hS, (Post.unbind q).imp fun ds s1 α1 H1 g1 t1 q1 J hJ D hD => ?_⟩
  obtain ⟨hl, q1⟩ := q1.unite
  dsimp only at hl q1
  have nP : D ∉ P := fun z => t1.pt D z hD
  refine lc_it hJ (fun j Hj => ∃ αj sj xs ys, Lc X.K P α1 H1 D i t m e ds (Mini.lcF i t m e ds s1) j αj sj xs ys Hj) ?_ ?_ ?_ ?_
  · refine ⟨α1, s1, [], [], t1.prot hD, fun _ _ q => q, fun b o q => ?_, fun b hb o q => by rw [upd_ne (ne_of_none q hD)]; exact q, upd_same, Nat.le_refl _, by simp [DrL], by rw [List.drop_zero, bind_id]⟩
    rw [imm_some] at q ⊢
    have : b ≠ D := ne_of_none q.2.2 hD
    exact ⟨by simp [this, q.1], q.2.1, by rw [upd_ne this]; exact q.2.2⟩
  · rintro j Hj _ ⟨αj, sj, xs, ys, L⟩
    exact L.ext.trans (imm_sub _ _ _)
  · rintro j v Hj Hj' hj ⟨αj, sj, xs, ys, L⟩ ⟨rfl, d, hd, hdv⟩
    have hw : (wipe σ [i]).set i (some v) = σ.set i (some v) := by simp [wipe, List.set_set]
    show wipe ((wipe σ [i]).set i (some v)) [i] = wipe σ [i] ∧ _
    refine ⟨by simp [wipe, List.set_set], ?_⟩
    rw [hw]
    have hdrop : ds.drop j = d :: ds.drop (j + 1) := by
      obtain ⟨h1, h2⟩ := List.getElem?_eq_some_iff.mp hd
      rw [← h2]
      exact List.drop_eq_getElem_cons h1
    have ht := L.tot
    rw [hdrop, Mini.lcF] at ht
    cases htot : Mini.lcF i t m e ds s1 with
    | bad => rw [htot] at q1; exact q1.elim
    | exc c => exact absurd htot lcF_exc
    | ok r =>
      rw [htot] at ht
      obtain ⟨r0, hr0, hr1⟩ := bind_ok ht.symm
      obtain ⟨p, hp, hr0⟩ := nox_bad hr0
      have env1 : EnvR X.K (imm Hj' (D :: P) αj) αj (e.set i (some d)) (σ.set i (some v)) := ((hS.env.gr g1).mono L.ext L.pre).set (hdv.mono L.ext L.pre)
      refine ⟨D :: P, αj, e.set i (some d), sj, ⟨L.st, env1⟩, Post.ok_of hp fun α2 H2 g2 t2 => ?_⟩
      have D2 : H2 D = some (.lst xs) := g2.keep D List.mem_cons_self _ L.at'
      split at hr0
      · rename_i hb
        dsimp only
        rw [if_pos hb]
        obtain ⟨y, hy, hr0⟩ := nox_bad hr0
        split at hr0
        · rename_i hck
          refine ⟨D :: P, α2, e.set i (some d), p.2, ⟨t2, env1.gr g2⟩, Post.ok_of hy fun α3 H3 g3 t3 u hu => ?_⟩
          have D3 : H3 D = some (.lst xs) := g3.keep D List.mem_cons_self _ D2
          obtain ⟨e1, t4⟩ := t3.grow (.lst (xs ++ [u]))
          have hl' : ds.length ≤ 16777216 := hl
          refine ⟨xs, D3, slt (by have := L.len; omega), α3, y.2, xs ++ [u], ys ++ [y.1], t4, fun k a z => g3.pre k a (g2.pre k a (L.pre k a z)), ?_, fun b hb' o z => ?_, upd_same, by simp; exact L.len, ?_, ?_⟩
          · rw [e1]; exact L.ext.trans (g2.ext.trans g3.ext)
          · rw [upd_ne (show b ≠ D from fun w => nP (w ▸ hb'))]
            exact g3.keep b (List.mem_cons_of_mem _ hb') o (g2.keep b (List.mem_cons_of_mem _ hb') o (L.keep b hb' o z))
          · rw [e1]
            refine (DrL.mono (g2.ext.trans g3.ext) (fun _ _ q => q) L.dr).append ?_
            have := t3.chk (ds := [y.1]) (xs := [u]) hck (by simp only [DrL]; exact ⟨hu, trivial⟩)
            exact this
          · rw [ht, hp]
            simp only [Mini.R.nox_ok, Mini.R.bind_ok, hb, if_true, hy, hck]
            exact bind_app _ _ _
        · cases hr0
      · rename_i hb
        dsimp only
        rw [if_neg hb]
        refine ⟨α2, p.2, xs, ys, t2, fun k a z => g2.pre k a (L.pre k a z), L.ext.trans g2.ext, fun b hb' o z => g2.keep b (List.mem_cons_of_mem _ hb') o (L.keep b hb' o z), D2, by have := L.len; omega, DrL.mono g2.ext (fun _ _ q => q) L.dr, ?_⟩
        rw [ht, hp]
        simp only [Mini.R.nox_ok, Mini.R.bind_ok, hb, if_false]
        rfl
  · rintro Hn ⟨αn, sn, xs, ys, L⟩
    have ht := L.tot
    rw [List.drop_length, Mini.lcF] at ht
    simp only [Mini.R.bind_ok, List.append_nil] at ht
    rw [ht] at q1
    obtain ⟨ei, t5, el⟩ := L.st.own nP L.at' L.dr
    refine q1 (αn ++ [D]) Hn ⟨fun k a z => ?_, by rw [ei]; exact L.ext, L.keep⟩ t5 _ ?_
    · have z2 := L.pre k a z
      rw [List.getElem?_append_left (List.getElem?_eq_some_iff.mp z2).1]
      exact z2
    · rw [Dr]
      exact ⟨D, el, rfl⟩
theorem sm_setLcO {elt tg iter : Expr} {ifs : List Expr} {scope : Scope} {x y : Str} {i j : Nat} {mi : Mini.A} {t : Mini.T} {m : Mini.M} {py spos : Pos} (hy : X.N[j]? = some y) (hyl : X.env.scope.names.lookup y = some .local)
    (hsw : swapsWith (.ListComp elt [⟨tg, iter, ifs, 0⟩] scope pos) (some (.Name y py)) spos.line X.env = pure true)
    (hc : X.calm = true) (hN : X.N.Nodup) (hi : PI X tg iter (tI X.K E mi)) (ok : BlkOk X.N X.env.scope scope [(x, i)])
    (hg : ∀ (s : Shared) (H : Hp) (C : Addr) (cl : List (Str × Addr)) (fp : List Addr), PG (X.blk s H scope (compEnvC scope cl C X.env) fp) tg (gName i)) (ht : ∀ (s : Shared) (H : Hp) (C : Addr) (cl : List (Str × Addr)) (fp : List Addr), PTs (X.blk s H scope (compEnvC scope cl C X.env) fp) ifs (tT X.K E00 t))
    (he : ∀ (s : Shared) (H : Hp) (C : Addr) (cl : List (Str × Addr)) (fp : List Addr), PE (X.blk s H scope (compEnvC scope cl C X.env) fp) elt (tM X.K E00 m)) (hs : ∀ x, foldedSetIterable iter X.env x = pure x := by intro _; rfl) :
    PS X (.Assign [.Name y py] (.ListComp elt [⟨tg, iter, ifs, 0⟩] scope pos) spos) (tS X.K E (Mini.sSet j (Mini.mLcO i mi t m))) :=
  (ps_setLc hc hN hy hyl hsw hi ok hg ht he hs).to fun D σ H ⟨P, α, e, s, hS, q⟩ => lc_toO (X := X) (E := E) σ H _ ⟨P, α, e, s, hS, (Post.unbind q).imp fun d s1 α1 H1 g1 t1 q1 v hv => by
    show D.nx (σ.set j (some v)) H1
    exact q1.here t1 _ ((hS.gr g1 t1).set hv)⟩
/-- a + b, a list of our own -/
theorem pm_ownCat {a b : Expr} {ma mb : Mini.M} (ha : PE X a (tM X.K E ma)) (hb : PE X b (tM X.K E mb)) : PE X (.BinOp a .Add b pos) (tM X.K E (Mini.mOwnCat ma mb)) := (pe_op op_cat ha hb).to fun σ H Q ⟨P, α, e, s, hS, q⟩ =>
  ⟨P, α, e, s, hS, (Post.unbind q).imp fun d s1 α1 H1 g1 t1 q1 v hv => ⟨P, α1, e, s1, hS.gr g1 t1, (Post.unbind q1).imp fun d2 s2 α2 H2 g2 t2 q2 u hu => by
    obtain ⟨ds, hz, q2⟩ := q2.unof
    dsimp only at hz q2
    have hx := rz_dr t2 (g2.dr hv)
    have hy := rz_dr t2 hu
    generalize Mini.rz s2 d = x' at *
    generalize Mini.rz s2 d2 = y' at *
    cases x' <;> cases y' <;> simp [Mini.catD] at hz
    obtain ⟨hl, rfl⟩ := hz
    obtain ⟨a, xs, rfl, h1, h2⟩ := hx
    obtain ⟨b, ys, rfl, h3, h4⟩ := hy
    refine ⟨a, b, xs, ys, rfl, rfl, h1, h3, sl (by rw [← h2.len, ← h4.len]; exact hl), fun p hp => ?_⟩
    obtain ⟨g3, t3, el⟩ := t2.newOwn (o := .L _) (ho := .lst (xs ++ ys)) hp ⟨_, rfl, h2.append h4⟩
    exact q2 _ _ g3 t3 _ (by rw [Dr]; exact ⟨p, el, rfl⟩)⟩⟩
end
theorem body_endK {K : PySem.W.Frag} {P α : List Addr} {s : Mini.Sto} {H : Hp} {E : XC} {names : Nat} {m : Mini.S} {ds : List Mini.D} {Q : VK} (h : Post K E P α H (Mini.runK names m ds s) fun d s' α' H' => ∀ v, Dr K (imm H' P α') α' d v → Q v H') :
    Post K E P α H (m (Mini.ent names ds) s) (endK K P { nx := fun _ H' => Q .non H', rt := Q }) := by
  unfold Mini.runK at h
  cases hm : m (Mini.ent names ds) s with
  | bad => rw [hm] at h; exact h.elim
  | exc c => rw [hm] at h; exact h
  | ok p =>
    rw [hm] at h
    obtain ⟨o, s1⟩ := p
    intro α1 H1 g1 t1
    cases o with
    | nx e =>
      simp only [Mini.fin, Mini.R.bind_ok] at h
      exact fun σ _ => h α1 H1 g1 t1 .non (by simp [Dr])
    | rt d =>
      simp only [Mini.fin, Mini.R.bind_ok] at h
      exact fun v hv => h α1 H1 g1 t1 v hv
    | bk e => simp only [Mini.fin, Mini.R.bind_ok, Mini.R.bind_bad] at h; exact h.elim
    | ct e => simp only [Mini.fin, Mini.R.bind_ok, Mini.R.bind_bad] at h; exact h.elim
section
variable {P : Program} {w : World} {K : PySem.W.Frag} {mg : Str → Option Value} {base : Heap} {x qual : Str} {st : Stmt} {f : Addr} {fd : FuncData} {N ps : List Str} {k : Nat} {m : Mini.S} {C : Nat → Addr}
/-- a def whose own objects go over to its caller -/
theorem fn_GK (F : Fun K x qual st f fd) (S : FnScope N ps (defScope st))
    (body : ∀ cdv A outer s H E, Room k (A.deeper (envOfC qual (defScope st) s.heap.objs.size f cdv)) → PSs (cx0 P w K mg base N qual st f cdv A outer s H E) (defBody st) (tS K E00 m)) :
    FnOk P w K mg base CX0 (k + 1) f fd ps (spG K C ps.length fun ds s => (Mini.runK N.length m ds s).nox) := by
  refine F.ok S (fun vs H Q E q => q.1) fun cdv A outer s H vs Q E hr q => ⟨_, body cdv A outer s H E hr, ?_⟩
  obtain ⟨hn, Pr, α, s0, ds, hs, hd, q⟩ := q
  refine ⟨Pr, α, Mini.ent N.length ds, s0, ⟨hs, ent_env hd⟩, body_endK ?_⟩
  dsimp only at q
  cases h : Mini.runK N.length m ds s0 with
  | bad => rw [h] at q; exact q.elim
  | exc c => rw [h] at q; exact q.elim
  | ok p => rw [h] at q; exact q
end
end Snd
end
section
namespace Snd
open PySem L2
open PyProof.Rows (envOfC)
section
variable {X : Cx} {E : XC} {W : WX} {C : Nat → Addr}
theorem pe_strz {x : Str} {z : List Nat} {j : Nat} {p : Pos} (hx : x = ⟨z.toArray⟩) : PE X (.Constant (.str x) j p) (tC (.str ⟨z.toArray⟩)) := hx ▸ pe_str
theorem takesN0 {X : Cx} : L2N.Takes X (fun _ _ _ _ => False) := fun _ _ x => by
  obtain ⟨_, _, _, _, _, _, _, _, _, _, _, _, _, _, _, _, z⟩ := x
  exact z.elim
/-- a call within a try's body -/
theorem passT {X : Cx} {W : WX} (tk : L2N.Takes X W) : Passes (L2N.CX X.prog X.w) X (fun cls d H => ∀ σ : L2.St, σ.length = X.N.length → W cls d σ H) := fun pins σ H s e s' I c => tk e s' (L2N.XE.of_call I (fun cls d H' h => h σ I.len) c)
theorem sm_raise {c : Nat} {x m : Str} {j : Nat} {p p2 pos pos' : Pos} {bmB : List Value} {B newId initId : String} (hc : X.calm = true) (tk : L2N.Takes X W) (hW : ∀ σ H, E c none H → W (.ref (C c)) none σ H)
    (F : ExcBaseFacts B newId initId bmB) (q : PySem.W.excIn X.K (C c) bmB newId = true) (gC : X.mg x = some (.ref (C c))) (kC : PySem.W.keepIn X.K (.ref (C c)) = true) (r : Raises X (.ref (C c))) (hg : Gl X x)
    (hdb : (x == ("__debug__" : Str)) = false := by decide) :
    PS X (.Raise (some (.Call (.Name x p) [.Constant (.str m) j p2] [] pos)) none pos') (tS X.K E (Mini.sRaise c)) :=
  (L2N.ps_raise hc tk (L2N.pmk_own F q gC kC r hg hdb)).to fun D σ H ⟨P, α, e, s, hS, q⟩ => hW _ _ (q α H (Gr.refl _ _ _))
/-- nothing is ours: so it stands after any growth -/
theorem StR.none {K : PySem.W.Frag} {P α : List Addr} {H H' : Hp} {α' : List Addr} (h : StR K P α [] H) (g : Gr P α H α' H') : α = [] ∧ StR K P [] [] H' ∧ Gr P α H [] H' := by
  have e : α = [] := List.eq_nil_of_length_eq_zero h.len.symm
  subst e
  refine ⟨rfl, ⟨by simp, by simp, fun b hb => ?_, rfl, by simp⟩, ⟨fun k a z => by simp at z, fun b o z => ?_, g.keep⟩⟩
  · cases q : H b with
    | none => exact absurd q (h.pt b hb)
    | some o => rw [g.keep b hb o q]; simp
  · obtain ⟨h1, _, h3⟩ := imm_some.mp z
    exact imm_some.mpr ⟨h1, by simp, g.all b o h3⟩
abbrev hdl (C : Nat → Addr) (p : Nat × List Nat) : Value × (Addr → Value → Option Addr → TS) := (.ref (C p.1), fun _ _ _ => tRet (tC (.str ⟨p.2.toArray⟩)))
theorem many_at {K : PySem.W.Frag} {D : Ends} {Wout : WX} {c : Nat} {z : List Nat} {d : Option Addr} {σ : L2.St} {H : Hp} (hx : ∀ j, j < 5 → PySem.W.exmOne K (.ref (C c)) (.ref (C j)) = some (decide (c = j))) :
    ∀ l : List (Nat × List Nat), (∀ p ∈ l, p.1 < 5) → Mini.tblAt l c = some z → D.rt (.str ⟨z.toArray⟩) H → wMany K Wout D (l.map (hdl C)) (.ref (C c)) d σ H
  | [], _, h, _ => by cases h
  | (j, y) :: r, hl, h, q => by
    refine ⟨_, hx j (hl _ List.mem_cons_self), fun e a na => ?_, fun e => ?_⟩
    · have e' : c = j := of_decide_eq_true e
      rw [Mini.tblAt, if_pos e'] at h
      cases h
      exact q
    · have e' : ¬ c = j := of_decide_eq_false e
      rw [Mini.tblAt, if_neg e'] at h
      exact many_at hx r (fun p hp => hl p (List.mem_cons_of_mem _ hp)) h q
theorem sm_tryR {body : List Stmt} {h₀ : ExceptHandler} {hds : List ExceptHandler} {pos : Pos} {m : Mini.S} {l : List (Nat × List Nat)} (hs : X.stack = X.env :: X.outer) (hf : X.env.frame = some X.env.locals)
    (hx : ∀ i j, i < 5 → j < 5 → PySem.W.exmOne X.K (.ref (C i)) (.ref (C j)) = some (decide (i = j)))
    (hl : ∀ p ∈ l, p.1 < 5)
    (hb : ∀ (W : WX) (pn : List (Addr × Obj)) (xe : Value → Shared → Prop), L2N.Takes (X.tr pn xe) W → PassesOwn (model X.prog X.w) X.A X.env xe → PSs (X.tr pn xe) body (tS X.K (fun c oe H => ∀ σ, σ.length = X.N.length → W (.ref (C c)) oe σ H) m))
    (hh : L2N.HdsOk X (h₀ :: hds) (l.map (hdl C))) : PS X (.Try body (h₀ :: hds) [] [] pos) (tS X.K E00 (Mini.sTryR m l)) :=
  (L2N.ps_try_many hs hf takesN0 hb hh).to fun D σ H ⟨P, α, e, s, hS, q⟩ => by
    refine ⟨P, α, e, s, hS, ?_⟩
    unfold Mini.sTryR at q
    cases hm : m e s with
    | bad => rw [hm] at q; exact q.elim
    | ok p => rw [hm] at q; exact q
    | exc c =>
      rw [hm] at q
      intro α' H' g σ' _
      cases s with
      | cons _ _ => exact q.elim
      | nil =>
        simp only at q
        split at q
        · rename_i hc5
          split at q
          · rename_i z hz
            obtain ⟨e1, t2, g2⟩ := StR.none hS.st g
            refine many_at (fun j hj => hx c j hc5 hj) l hl hz ?_
            exact q [] H' g2 t2 _ (by rw [Dr])
          · exact q.elim
        · exact q.elim
theorem sm_try1 {x n : Str} {i : Nat} {body suite : List Stmt} {b₀ : Stmt} {np pos pos' : Pos} {m : Mini.S} (hs : X.stack = X.env :: X.outer) (hf : X.env.frame = some X.env.locals) (hN : X.N.Nodup) (hi : X.N[i]? = some n) (hln : X.env.kindOf n = some .local)
    (hc : Names X x (.ref (C 5))) (hx : ∀ j, j < 5 → PySem.W.exmOne X.K (.ref (C j)) (.ref (C 5)) = some true)
    (ts : Addr → Value → Option Addr → TS) (hts : ∀ (a : Addr) (c : Nat) (D : Ends) (σ : L2.St) (H : Hp), c < 5 → H a = none → σ.length = X.N.length → σ[i]? = some (some (V.ref a)) → (∀ H', Ext H H' → D.rt (.bl true) H') → ts a (.ref (C c)) none D σ H)
    (hb : ∀ (W : WX) (pn : List (Addr × Obj)) (xe : Value → Shared → Prop), L2N.Takes (X.tr pn xe) W → PassesOwn (model X.prog X.w) X.A X.env xe → PSs (X.tr pn xe) body (tS X.K (fun c oe H => ∀ σ, σ.length = X.N.length → W (.ref (C c)) oe σ H) m))
    (hsu : ∀ (a : Addr) (oe : Obj) (cls : Value) (d : Option Addr) (pn : List (Addr × Obj)), L2N.Zn cls d oe → (∃ vs, oe.data = .fields vs) → PSs (X.suite a ((a, oe) :: pn)) (b₀ :: suite) (ts a cls d)) :
    PS X (.Try body [.ExceptHandler (some (.Name x np)) (some n) (b₀ :: suite) pos'] [] [] pos) (tS X.K E00 (Mini.sTry1 m)) :=
  (L2N.ps_try_as hs hf hN hi hln hc takesN0 hb hsu).to fun D σ H ⟨P, α, e, s, hS, q⟩ => by
    refine ⟨P, α, e, s, hS, ?_⟩
    unfold Mini.sTry1 at q
    cases hm : m e s with
    | bad => rw [hm] at q; exact q.elim
    | ok p => rw [hm] at q; exact q
    | exc c =>
      rw [hm] at q
      intro α' H' g σ' hσ
      cases s with
      | cons _ _ => exact q.elim
      | nil =>
        simp only at q
        split at q
        · rename_i hc5
          obtain ⟨e1, t2, g2⟩ := StR.none hS.st g
          refine ⟨true, hx c hc5, fun _ a na => hts a c _ _ _ hc5 na (by rw [List.length_set]; exact hσ) ?_ fun H2 hx2 => ?_, fun z => by cases z⟩
          · have hi' : i < X.N.length := (List.getElem?_eq_some_iff.mp hi).1
            rw [List.getElem?_set]; simp; omega
          · obtain ⟨g3, t3⟩ := t2.ext hx2
            exact q [] H2 (g2.trans g3) t3 _ (by rw [Dr])
        · exact q.elim
end
section
variable {P : Program} {w : World} {K : PySem.W.Frag} {mg : Str → Option Value} {base : Heap} {x qual : Str} {st : Stmt} {f : Addr} {fd : FuncData} {N ps : List Str} {k : Nat} {m : Mini.S} {C : Nat → Addr}
abbrev cxN (P : Program) (w : World) (K : PySem.W.Frag) (mg : Str → Option Value) (base : Heap) (N : List Str) (qual : Str) (st : Stmt) (f : Addr) (cdv : Value) (A : Around) (outer : List PySem.Env) (s : Shared) (H : Hp) (E : XK) : Cx := cxOf (L2N.CX P w) P w K mg base N qual (defScope st) f cdv A outer s H E
/-- a def that may raise where nothing is handled -/
theorem fn_PN (F : Fun K x qual st f fd) (S : FnScope N ps (defScope st))
    (body : ∀ cdv A outer s H E, Room k (A.deeper (envOfC qual (defScope st) s.heap.objs.size f cdv)) → PSs (cxN P w K mg base N qual st f cdv A outer s H E) (defBody st) (tS K (fun c oe H' => E (.ref (C c)) oe H') m)) :
    FnOk P w K mg base (L2N.CX P w) (k + 1) f fd ps (spP K C ps.length (Mini.run N.length m)) := by
  obtain ⟨oc, od, kV, doc, pm, an, cdv, ct, osl, rfl, lk, hcd⟩ := F.ex
  refine fn_of lk hcd S (fun vs H Q E q => q.1) fun A outer s H vs Q E hr q => ⟨_, body cdv A outer s H E hr, ?_⟩
  obtain ⟨hn, Pr, ds, hP, hd, q⟩ := q
  have hs : StR K Pr [] [] H := ⟨by simp, by simp, hP, rfl, by simp⟩
  refine ⟨Pr, [], Mini.ent N.length ds, [], ⟨hs, ent_env hd⟩, body_end hs ?_⟩
  dsimp only [Mini.run] at q
  cases h : Mini.runG N.length m ds [] with
  | bad => rw [h] at q; exact q.elim
  | exc c =>
    rw [h] at q
    exact fun α' H' g => q H' g.all
  | ok p =>
    rw [h] at q
    intro α' H' g t v hv
    have : α' = [] := by
      have e : p.2 = [] := by
        unfold Mini.runG at h
        obtain ⟨p1, _, h⟩ := bind_ok h
        obtain ⟨d, _, h⟩ := bind_ok h
        cases h
        simp
      have := t.len
      rw [e] at this
      exact List.eq_nil_of_length_eq_zero this.symm
    subst this
    exact q v H' g.all hv
end
end Snd
end
section
/-! [x for x in l if x] over a list of truths, walked while an exception is handled -/
namespace Snd
open PySem L2 PySem.Spec PyProof.Rows
/-- the exception that is handled stays as it is where one other record is written -/
theorem hot_upd {A : Around} {h : Heap} {x b : Addr} {f : Obj → Obj} (k : HotX.HotAt A x h) (ne : b ≠ x) : HotX.HotAt A x (h.update b f) := by
  rcases k with ⟨k1, ob, fl, k2, k3⟩
  exact ⟨k1, ob, fl, (Heap.get?_update_other h f ne).trans k2, k3⟩
theorem hot_push {A : Around} {h : Heap} {x : Addr} {o : Obj} (k : HotX.HotAt A x h) : HotX.HotAt A x (h.push o) := by
  rcases k with ⟨k1, ob, fl, k2, k3⟩
  exact ⟨k1, ob, fl, Heap.get?_push_of_some _ k2, k3⟩
theorem hot_lt {A : Around} {h : Heap} {x : Addr} (k : HotX.HotAt A x h) : x < h.objs.size := by
  rcases k with ⟨_, _, _, k2, _⟩
  exact Heap.lt_size k2
/-- StopIteration, raised by the library while x is handled -/
theorem stop_hot {prog : Program} {w : World} {A : Around} {α : Type} {E : Value → Shared → Prop} {st : Shared} {x : Addr} {Q : α → Shared → Prop} (k : HotX.HotAt A x st.heap)
    (en : ∀ (a : Addr) (h' : Heap), (∀ b o, st.heap.get? b = some o → h'.get? b = some o) → (∃ o, h'.get? a = some o ∧ o.cls = .type "StopIteration") → E (.ref a) { st with heap := h' }) :
    wpAny (model prog w) A (newExc (.type "StopIteration") [] >>= fun e => (raiseNew e : Sem α)) Q E st := by
  apply wpAny_bind
  simp only [newExc, newTuple]
  apply wpAny_bind
  apply wpAny_newObj_type _ (by size_fits)
  apply wpAny_bind (m := firstArgMember _ _)
  apply wpAny_of_eq (a := Value.none) (by first | rfl | (simp only [firstArgMember]; rfl))
  apply wpAny_newObj_type _ (by size_fits)
  refine HotX.raiseNew_hot (hot_push (hot_push k)) (Nat.ne_of_lt (hot_lt (hot_push k))) (Heap.get?_push_size _ rfl) rfl (by first | (simp; done) | (simp; omega) | (simp only [Array.size_append]; simp; omega)) (en _ _ (fun b o z => ?_) ⟨_, Heap.get?_update_self _ (Heap.get?_push_size _ rfl) rfl, rfl⟩)
  have far : ∀ {h1 : Heap} {c : Addr}, b < h1.objs.size → c = h1.objs.size → c ≠ b := fun lt e => by rw [e]; exact (Nat.ne_of_lt lt).symm
  exact (Heap.get?_update_other _ _ (far (Heap.lt_size (Heap.get?_push_of_some _ z)) rfl)).trans (Heap.get?_push_of_some _ (Heap.get?_push_of_some _ z))
/-- a list's iterator comes to its end while x is handled -/
theorem end_hot {prog : Program} {w : World} {A : Around} {E : Value → Shared → Prop} {st : Shared} {r l x : Addr} {n : Nat} {vs : Array Value} {Q : Option Value → Shared → Prop} (k : HotX.HotAt A x st.heap) (ne : x ≠ r)
    (itr : st.heap.IsListIter r l n) (lst : st.heap.IsList l vs) (out : vs[n]? = none) (q : ∀ h', (∀ b o, b ≠ r → st.heap.get? b = some o → h'.get? b = some o) → Q none { st with heap := h' }) :
    wpAny (model prog w) A (pyNext (.ref r)) Q E st := by
  rcases id itr with ⟨ro, rget, rcls, rdat⟩
  rcases lst with ⟨lo, lget, _, ln, ldat⟩
  unfold pyNext
  apply wpAny_bind
  apply wpAny_attempt
  apply wpAny_callSpecial?_slot (name := Str.ofString "__next__") itr.typeIs slot_listiter_next
  refine wpAny_call_entry slot_listiter_next itr.typeIs entry_listiter_next ?_ (args_listiter_next _)
  show wpAny _ _ (field (.ref r) 0 >>= _) _ _ st
  refine wpAny_bind (wpAny_field rget rdat (x := .ref l) rfl ?_)
  show wpAny _ _ (if (Value.ref l == .none) = true then _ else _) _ _ st
  have nn : ¬ (Value.ref l == .none) = true := Bool.false_ne_true
  rw [if_neg nn]
  show wpAny _ _ (field (.ref r) 1 >>= _) _ _ st
  refine wpAny_bind (wpAny_field rget rdat (x := .int n 0) rfl ?_)
  show wpAny _ _ (seqItems? (.ref l) >>= _) _ _ st
  refine wpAny_bind (wpAny_seqItems lget ldat ?_)
  simp only [out, Int.toNat_natCast]
  refine wpAny_bind (wpAny_rule (wpAny_bind (wpAny_setField rget rdat (by simp) ?_)))
  show wpAny _ _ (newExc (.type "StopIteration") [] >>= fun e => raiseNew e) _ _ _
  refine stop_hot (hot_upd k (Ne.symm ne)) fun a h' up ⟨o, og, oc⟩ => ?_
  refine wpAny_bind (wpAny_isInstance (T := "StopIteration") (b := true) ⟨o, og, oc⟩ isSubtype_stop (wpAny_pure (q h' fun b u nb z => ?_)))
  exact up b u ((Heap.get?_update_other _ _ (Ne.symm nb)).trans z)
/-- the truths of a list that are true: slot k holds the list, slot i the comprehension's name -/
def tKeep (i k : Nat) : TE := fun σ H Q => ∃ (a : Addr) (bs : List Bool), σ[k]? = some (some (V.ref a)) ∧ i < σ.length ∧ H a = some (.lst (bs.map V.bl)) ∧ bs.length ≤ 1000 ∧ ∀ D H', Ext H H' → H' D = some (.lst ((bs.filter id).map V.bl)) → Q (.ref D) H'
theorem pe_keepH {X : Cx} {elt tg iter : Expr} {ifs : List Expr} {scope : Scope} {x : Str} {i k : Nat} {pos : Pos} (hot : L2H.HotC X) (nd : X.N.Nodup) (src : PE X iter (tVar k)) (ok : BlkOk X.N X.env.scope scope [(x, i)])
    (into : ∀ (s : Shared) (H : Hp) (C : Addr) (cl : List (Str × Addr)) (fp : List Addr), PG (X.blk s H scope (compEnvC scope cl C X.env) fp) tg (gName i))
    (test : ∀ (s : Shared) (H : Hp) (C : Addr) (cl : List (Str × Addr)) (fp : List Addr), PTs (X.blk s H scope (compEnvC scope cl C X.env) fp) ifs (tB (tVar i)))
    (take : ∀ (s : Shared) (H : Hp) (C : Addr) (cl : List (Str × Addr)) (fp : List Addr), PE (X.blk s H scope (compEnvC scope cl C X.env) fp) elt (tVar i)) (fold : ∀ v, foldedSetIterable iter X.env v = pure v := by intro _; rfl) :
    PE X (.ListComp elt [⟨tg, iter, ifs, 0⟩] scope pos) (tKeep i k) := by
  constructor
  rintro pins s0 σ H Q I0 ⟨a, bs, sa, li, ha, lb, done⟩
  rw [eval_ListComp]
  refine wpAny_comprehension_free (use := none) rfl fold (closure_ok fun y hy e => (ok.free y hy e).elim (I0.ok.has _ ∘ .inl) (I0.ok.has _ ∘ .inr)) ok.kind (fun y hy e => (ok.uniq y hy).trans (congrArg some e)) ?_
  refine thn (src.run pins s0 σ H (fun v H1 => v = .ref a ∧ H = H1) I0 ⟨_, sa, rfl, rfl⟩) fun u s1 ⟨v, H1, I1, rv, ev, eH⟩ => ?_
  subst ev eH
  cases rv
  rcases I1.list (SqL.of ha) with ⟨us, _, pl, _⟩
  apply wpAny_pyIter_list pl.isList
  -- the iterator
  generalize e2 : ({ s1 with heap := s1.heap.push _ } : Shared) = s2
  generalize er : s1.heap.objs.size = r
  have I2 : L2.Inv X pins σ H s2 := e2 ▸ I1.kept (t' := s1.toks) fun _ _ => Heap.get?_push_of_some _
  have w2 : s2.heap.IsListIter r a 0 := e2 ▸ er ▸ ⟨_, Heap.get?_push_size _ rfl, rfl, rfl⟩
  have own : FpOk X pins H r := er ▸ I1.fpOk (Nat.le_refl _) (I1.hok.fresh (Nat.le_refl _))
  -- the new list
  refine wpAny_newObj_type (newEnv_comp ?body) (Nat.zero_le _)
  have lt2 : r < s2.heap.objs.size := by rcases w2 with ⟨_, z, _⟩; exact Heap.lt_size z
  generalize eD : s2.heap.objs.size = D at lt2
  have fresh : H D = none := I2.hok.fresh (Nat.le_of_eq eD)
  generalize e3 : ({ s2 with heap := s2.heap.push _ } : Shared) = s3
  have h3 : s3.heap = s2.heap.push { cls := .type "list", data := .seq #[] } := e3 ▸ rfl
  have I3 : L2.Inv X pins σ (upd H D (.lst [])) s3 := by
    subst e3
    exact I2.laid (t' := s2.toks) (fun _ _ => Heap.get?_push_of_some _) (Nat.le_of_eq eD) ⟨Nat.zero_le _, [], 0, .nil, eD ▸ Heap.get?_push_size _ rfl⟩
  have base : Ext H (upd H D (.lst [])) := fun b o z => (upd_ne (ne_of_none z fresh)).trans z
  have nr : ∀ G : Hp, (upd G D (.lst [])) r = G r := fun _ => upd_ne (Nat.ne_of_lt lt2)
  have own3 : FpOk X pins (upd H D (.lst [])) r := ⟨(nr H).trans own.1, own.2⟩
  have at0 : (upd H D (.lst [])) D = some (.lst []) := upd_same
  have w3 : s3.heap.IsListIter r a 0 := by rcases w2 with ⟨o, z, y⟩; exact ⟨o, h3 ▸ Heap.get?_push_of_some _ z, y⟩
  have I4 := block_start (fp := [r]) I3 ok nd fun b hb => List.mem_singleton.mp hb ▸ ⟨own3, h3 ▸ (Heap.size_push _ _).symm ▸ Nat.lt_succ_of_lt (eD ▸ lt2)⟩
  have P1 := into s3 (upd H D (.lst [])) s3.heap.objs.size (cellsFrom (s3.heap.objs.size + 1) scope.names (cloFrom X.env.cells scope.names [])) [r]
  have P2 := test s3 (upd H D (.lst [])) s3.heap.objs.size (cellsFrom (s3.heap.objs.size + 1) scope.names (cloFrom X.env.cells scope.names [])) [r]
  have P3 := take s3 (upd H D (.lst [])) s3.heap.objs.size (cellsFrom (s3.heap.objs.size + 1) scope.names (cloFrom X.env.cells scope.names [])) [r]
  generalize eC : s3.heap.objs.size = C at *
  generalize eV : compEnvC scope (cellsFrom (C + 1) scope.names (cloFrom X.env.cells scope.names [])) C X.env = V at *
  change codeAny _ _ (.compStart _ 0 (.ref r) (.ref D) (compEnvC scope (cellsFrom (C + 1) scope.names (cloFrom X.env.cells scope.names [])) C X.env)) (compPost _ _ _ none (EP X pins σ Q) (.ref D) C) _
  rw [eV]
  have cV : V.locals = C := eV ▸ rfl
  rcases hot with ⟨⟨ea, eo⟩, ⟨hh, fl, fd, fc⟩, mem⟩
  have pin := I3.pin (ea, eo) (List.mem_append_left _ mem)
  have far : ea ≠ r := own3.2.2.2.2.2 (ea, eo) (List.mem_append_left _ mem)
  have away : ea ∉ frs X.stack := fun z => (List.mem_cons.mp (I3.stkSub _ z)).elim pin.2.2.1 pin.2.2.2.1
  generalize upd H D (.lst []) = G0 at *
  generalize e4 : ({ s3 with heap := pushCells (s3.heap.push _) scope.names } : Shared) = s4 at *
  have w4 : s4.heap.IsListIter r a 0 := by rcases w3 with ⟨o, z, y⟩; exact e4 ▸ ⟨o, pushCells_keeps _ _ _ _ (Heap.get?_push_of_some _ z), y⟩
  have loop : codeAny (model X.prog X.w) X.A (.compLoop (.ListComp elt [⟨tg, iter, ifs, 0⟩] scope pos) 0 (.ref r) (.ref D) V) (compPost (model X.prog X.w) X.A X.xe none (EP X pins σ Q) (.ref D) C) s4 := by
    refine compLoop_any (fun n t => ∃ j G, L2.Inv (X.blk s3 G0 scope V [r]) [] (wipe σ [i]) G t ∧ t.heap.IsListIter r a j ∧ G r = none ∧ Ext H G ∧ G D = some (.lst (((bs.take j).filter id).map L2.V.bl)) ∧ j + n = bs.length) ?_ bs.length ⟨0, G0, I4, w4, own3.1, base, at0, Nat.zero_add _⟩
    rintro n t ⟨j, G, J, wj, gr, gE, gD, gn⟩
    have lt : r ∈ (X.blk s3 G0 scope V [r]).ex := List.mem_singleton.mpr rfl
    have stand : FpOk (X.blk s3 G0 scope V [r]) [] G r := ⟨gr, (J.ok.exf r lt).1, J.ok.exfs r lt, .inl lt, (J.ok.exf r lt).2, fun p z => (List.not_mem_nil z).elim⟩
    rcases J.list (SqL.of (gE _ _ ha)) with ⟨vs, rv, lv, _⟩
    have len := rv.length
    rw [List.length_map] at len
    cases hb : bs[j]? with
    | none =>
      have over : bs.length ≤ j := List.getElem?_eq_none_iff.mp hb
      refine end_hot (x := ea) ⟨hh, eo, fl, J.base.keep _ _ pin.1 pin.2.1 away (fun z => far (List.mem_singleton.mp z)), fd, fc⟩ far wj lv.isList (by simp; omega) fun h' keep => ?_
      have J6 : L2.Inv (X.blk s3 G0 scope V [r]) [] (wipe σ [i]) G { t with heap := h' } := J.turned (t' := t.toks) keep stand.1 stand.2.1 stand.2.2.2.1 stand.2.2.2.2.1 stand.2.2.2.2.2
      have J7 : L2.Inv X pins σ G { t with heap := h' } := I3.call' (ch := [r]) J6.os J6.base J6.hok J6.bare fun b z => List.mem_singleton.mp z ▸ ⟨own3.2.2.2.1, own3.2.1, own3.2.2.2.2.1, own3.2.2.2.2.2⟩
      have gC : G C = none := cV ▸ J6.free
      rcases J6.loc with ⟨m, hm, _⟩
      refine ⟨m, cV ▸ hm, fun h2 sb => ?_⟩
      have z := I3.fpOk (b := C) (Nat.le_of_eq eC) gC
      rw [List.take_of_length_le over] at gD
      exact ⟨.ref D, G, J7.turned (t' := t.toks) (fun b o nb y => (sb.2 b nb).trans y) z.1 z.2.1 z.2.2.2.1 z.2.2.2.2.1 z.2.2.2.2.2, rfl, done D G gE gD⟩
    | some b =>
      have jl : j < bs.length := (List.getElem?_eq_some_iff.mp hb).1
      rcases rv.get (i := j) (x := .bl b) (by rw [List.getElem?_map, hb]; rfl) with ⟨u, hu, ru⟩
      refine wpAny_pyNext_list_item wj lv.isList (x := u) (by simpa using hu) fun h' wn sb => ?_
      have J6 : L2.Inv (X.blk s3 G0 scope V [r]) [] (wipe σ [i]) G { t with heap := h' } := J.turned (t' := t.toks) (fun c o nc y => (sb.2 c nc).trans y) stand.1 stand.2.1 stand.2.2.2.1 stand.2.2.2.2.1 stand.2.2.2.2.2
      rcases id wn with ⟨ro, rg, rc, rd⟩
      refine go_of (s := { t with heap := h' }) rg rc rd (by decide) ?_
      have J7 := J6.pinned (fp := [r]) (fun c z => List.mem_singleton.mp z ▸ stand) fun c z => List.mem_singleton.mp z ▸ ⟨ro, rg, fun v y => by rw [rd] at y; cases y⟩
      have at1 : ((wipe σ [i]).set i (some (L2.V.bl b)))[i]? = some (some (.bl b)) := by rw [List.getElem?_set]; simp [wipe, li]
      refine thnF (P1.run _ _ _ G (.bl b) u (fun σ1 G1 => σ1 = (wipe σ [i]).set i (some (.bl b)) ∧ G1 = G) J7 ru ⟨rfl, rfl⟩) fun _ t1 ⟨σ1, G1, K1, e5, e6⟩ => ?_
      subst e5 e6
      refine thnF (P2.run _ t1 _ _ (fun c G2 => c = b ∧ G2 = G1) K1 ⟨_, at1, b, rfl, rfl, rfl⟩) fun c t2 ⟨G2, K2, e7, e8⟩ => ?_
      subst e7 e8
      have next : bs.take (j + 1) = bs.take j ++ [c] := by rw [List.take_add_one, hb]; rfl
      have again : ∀ {t3 : Shared} {G3 : Hp}, L2.Inv (X.blk s3 G0 scope V [r]) ([] ++ pinsAt [r] h') ((wipe σ [i]).set i (some (.bl c))) G3 t3 → Ext H G3 → G3 D = some (.lst (((bs.take (j + 1)).filter id).map L2.V.bl)) →
          ∃ m, m < n ∧ ∃ j G, L2.Inv (X.blk s3 G0 scope V [r]) [] (wipe σ [i]) G t3 ∧ t3.heap.IsListIter r a j ∧ G r = none ∧ Ext H G ∧ G D = some (.lst (((bs.take j).filter id).map L2.V.bl)) ∧ j + m = bs.length := fun {t3 G3} K3 x1 x2 => by
        have pr := K3.pin (r, ro) (List.mem_append_right _ (mem_pinsAt (List.mem_singleton.mpr rfl) rg))
        refine ⟨n - 1, by omega, j + 1, G3, K3.unpinned.weak (by rw [List.length_set]) (fun q v y => ?_), ⟨ro, pr.1, rc, rd⟩, pr.2.1, x1, x2, by omega⟩
        by_cases qi : i = q
        · subst qi; simp [wipe, li] at y
        · rw [List.getElem?_set_ne qi]; exact y
      cases c with
      | false => exact again K2 gE (by rw [next, List.filter_append]; simpa using gD)
      | true =>
        refine thnF (P3.run _ t2 _ _ (fun y G4 => y = .bl true ∧ G4 = G2) K2 ⟨_, at1, rfl, rfl⟩) fun z t4 ⟨y, G4, K4, rz, e9, e10⟩ => ?_
        subst e9 e10
        have cnt : (((bs.take j).filter id).map L2.V.bl).length < sizeLine := by
          rw [List.length_map, sizeLine_eq]
          exact Nat.lt_of_le_of_lt (Nat.le_trans (List.length_filter_le _ _) (List.length_take_le _ _)) (by omega)
        refine app_ok (X := X.blk s3 G0 scope V [r]) K4 gD cnt rz fun t5 K5 => again K5 (fun q o y => ?_) ?_
        · exact (upd_ne (ne_of_none y fresh)).trans (gE q o y)
        · rw [upd_same, next, List.filter_append]; simp
  exact codeAny_compStart_list loop (wpAny_pyIter_listiter w4 loop)
end Snd
end
section
namespace Bd
open Mini
/-- takes(inside, signs, sign); 0 inside, 1 signs, 2 sign -/
noncomputable def b_p_takes  : S :=
  (sRet (mOp opEq (mOp opIn (mV 2) (mV 1)) (mV 0)))
noncomputable def f_p_takes : List D → R D := fun ds => (run 3 b_p_takes ds).nox
/-- bare(tree); 0 tree, 1 part -/
noncomputable def b_p_bare (r_p_bare : List D → R D) : S :=
  (sCons (sIf (tV (mOp opEq (mOp opIx (mV 0) (mC (.int 0))) (mC (.str [116, 97, 107, 101])))) (sRet (mC (.bl false))) sNil)
    (sCons (sIf (tV (mOp opEq (mOp opIx (mV 0) (mC (.int 0))) (mC (.str [114, 111, 119])))) (sRet (mB bAll (mLc 1 (iSeq (mOp opIx (mV 0) (mC (.int 1)))) tYes (mCall r_p_bare (aCons (mV 1) aNil))))) sNil)
    (sCons (sIf (tV (mOp opEq (mOp opIx (mV 0) (mC (.int 0))) (mC (.str [112, 105, 99, 107])))) (sRet (mB bAny (mLc 1 (iSeq (mOp opIx (mV 0) (mC (.int 1)))) tYes (mCall r_p_bare (aCons (mV 1) aNil))))) sNil)
    (sRet (mC (.bl true))))))
noncomputable def f_p_bare : Nat → List D → R D
  | 0 => fun _ => .bad
  | n + 1 => fun ds => (run 2 (b_p_bare (f_p_bare n)) ds).nox
/-- row_of(pieces); 0 pieces -/
noncomputable def b_p_row_of  : S :=
  (sCons (sIf (tV (mOp opEq (mB bLen (mV 0)) (mC (.int 1)))) (sRet (mOp opIx (mV 0) (mC (.int 0)))) sNil)
    (sRet (mTup (aCons (mC (.str [114, 111, 119])) (aCons (mB bTup (mV 0)) aNil)))))
noncomputable def f_p_row_of : List D → R D := fun ds => (run 1 b_p_row_of ds).nox
/-- pick_of(rows); 0 rows -/
noncomputable def b_p_pick_of  : S :=
  (sCons (sIf (tV (mOp opEq (mB bLen (mV 0)) (mC (.int 1)))) (sRet (mOp opIx (mV 0) (mC (.int 0)))) sNil)
    (sRet (mTup (aCons (mC (.str [112, 105, 99, 107])) (aCons (mB bTup (mV 0)) aNil)))))
noncomputable def f_p_pick_of : List D → R D := fun ds => (run 1 b_p_pick_of ds).nox
/-- set_at(pattern, at); 0 pattern, 1 at, 2 inside, 3 signs -/
noncomputable def t_p_set_at_1 : T := (tV (mOp opNe (mSl (mV 0) (poS (mV 1)) (poS (mOp opAdd (mV 1) (mC (.int 1))))) (mC (.str [93]))))
noncomputable def c_p_set_at_1 : S := (sCons (sIf (tV (mOp opEq (mSl (mV 0) (poS (mV 1)) (poS (mOp opAdd (mV 1) (mC (.int 1))))) (mC (.str [126])))) (sSet 1 (mOp opAdd (mV 1) (mC (.int 1)))) sNil)
    (sCons (sIf (tV (mOp opGe (mV 1) (mB bLen (mV 0)))) (sRaise 0) sNil)
    (sCons (sSet 3 (mOp opAdd (mV 3) (mOp opIx (mV 0) (mV 1))))
    (sSet 1 (mOp opAdd (mV 1) (mC (.int 1)))))))
noncomputable def b_p_set_at  : S :=
  (sCons (sSet 2 (mC (.bl true)))
    (sCons (sSet 3 (mC (.str [])))
    (sCons (sIf (tV (mOp opEq (mSl (mV 0) (poS (mV 1)) (poS (mOp opAdd (mV 1) (mC (.int 1))))) (mC (.str [33])))) (sCons (sSet 2 (mC (.bl false)))
    (sSet 1 (mOp opAdd (mV 1) (mC (.int 1))))) sNil)
    (sCons (sWhile t_p_set_at_1 c_p_set_at_1)
    (sRet (mTup (aCons (mTup (aCons (mC (.str [116, 97, 107, 101])) (aCons (mV 2) (aCons (mV 3) aNil)))) (aCons (mOp opAdd (mV 1) (mC (.int 1))) aNil))))))))
noncomputable def f_p_set_at : List D → R D := fun ds => run 4 b_p_set_at ds
/-- piece_at(pattern, at); 0 pattern, 1 at, 2 sign -/
noncomputable def b_p_piece_at_5 : S := (sRet (mTup (aCons (mTup (aCons (mC (.str [116, 97, 107, 101])) (aCons (mC (.bl true)) (aCons (mV 2) aNil)))) (aCons (mOp opAdd (mV 1) (mC (.int 1))) aNil))))
noncomputable def b_p_piece_at_4 : S := (sCons (sIf (tV (mOp opEq (mV 2) (mC (.str [126])))) (sCons (sIf (tV (mOp opGe (mOp opAdd (mV 1) (mC (.int 1))) (mB bLen (mV 0)))) (sRaise 0) sNil)
    (sRet (mTup (aCons (mTup (aCons (mC (.str [116, 97, 107, 101])) (aCons (mC (.bl true)) (aCons (mOp opIx (mV 0) (mOp opAdd (mV 1) (mC (.int 1)))) aNil)))) (aCons (mOp opAdd (mV 1) (mC (.int 2))) aNil))))) sNil) b_p_piece_at_5)
noncomputable def b_p_piece_at_3 : S := (sCons (sIf (tV (mOp opEq (mV 2) (mC (.str [46])))) (sRet (mTup (aCons (mTup (aCons (mC (.str [116, 97, 107, 101])) (aCons (mC (.bl false)) (aCons (mC (.str [])) aNil)))) (aCons (mOp opAdd (mV 1) (mC (.int 1))) aNil)))) sNil) b_p_piece_at_4)
noncomputable def b_p_piece_at_2 : S := (sCons (sIf (tV (mOp opEq (mV 2) (mC (.str [91])))) (sRet (mCall f_p_set_at (aCons (mV 0) (aCons (mOp opAdd (mV 1) (mC (.int 1))) aNil)))) sNil) b_p_piece_at_3)
noncomputable def b_p_piece_at_1 : S := (sCons (sIf (tV (mOp opEq (mV 2) (mC (.str [93])))) (sRaise 1) sNil) b_p_piece_at_2)
noncomputable def b_p_piece_at  : S :=
  (sCons (sSet 2 (mOp opIx (mV 0) (mV 1))) b_p_piece_at_1)
noncomputable def f_p_piece_at : List D → R D := fun ds => run 3 b_p_piece_at ds
/-- repeated(sign, ready, pieces, eager); 0 sign, 1 ready, 2 pieces, 3 eager, 4 part -/
noncomputable def b_p_repeated  : S :=
  (sCons (sIf (tNot (tT (mV 1))) (sRaise 2) sNil)
    (sCons (sSet 4 (mOp opIx (mV 2) (mNeg (mC (.int 1)))))
    (sCons (sIf (tV (mOp opEq (mV 0) (mC (.str [63])))) (sRet (mTup (aCons (mC (.str [109, 97, 121, 98, 101])) (aCons (mV 4) (aCons (mV 3) aNil))))) sNil)
    (sCons (sIf (tT (mCall (f_p_bare 200) (aCons (mV 4) aNil))) (sRaise 3) sNil)
    (sRet (mTup (aCons (mC (.str [109, 97, 110, 121])) (aCons (mV 4) (aCons (mV 3) aNil)))))))))
noncomputable def f_p_repeated : List D → R D := fun ds => run 5 b_p_repeated ds
/-- closed(frames); 0 frames, 1 last, 2 above, 3 tree -/
noncomputable def b_p_closed  : S :=
  (sCons (sIf (tV (mOp opEq (mB bLen (mV 0)) (mC (.int 1)))) (sRaise 1) sNil)
    (sCons (sSet 1 (mOp opIx (mV 0) (mNeg (mC (.int 1)))))
    (sCons (sSet 2 (mOp opIx (mV 0) (mNeg (mC (.int 2)))))
    (sCons (sSet 3 (mCall f_p_pick_of (aCons (mOp opAdd (mOp opIx (mV 1) (mC (.int 0))) (mLst (aCons (mCall f_p_row_of (aCons (mOp opIx (mV 1) (mC (.int 1))) aNil)) aNil))) aNil)))
    (sRet (mOp opAdd (mSl (mV 0) poN (poS (mNeg (mC (.int 2))))) (mLst (aCons (mTup (aCons (mOp opIx (mV 2) (mC (.int 0))) (aCons (mOp opAdd (mOp opIx (mV 2) (mC (.int 1))) (mLst (aCons (mV 3) aNil))) aNil))) aNil))))))))
noncomputable def f_p_closed : List D → R D := fun ds => run 4 b_p_closed ds
/-- opened(frames); 0 frames -/
noncomputable def b_p_opened  : S :=
  (sCons (sIf (tV (mOp opGt (mB bLen (mV 0)) (mC (.int 30)))) (sRaise 4) sNil)
    (sRet (mOp opAdd (mV 0) (mLst (aCons (mTup (aCons (mLst aNil) (aCons (mLst aNil) aNil))) aNil)))))
noncomputable def f_p_opened : List D → R D := fun ds => run 1 b_p_opened ds
/-- read(pattern); 0 pattern, 1 frames, 2 ready, 3 at, 4 sign, 5 rows, 6 pieces, 7 eager, 8 part, 9 piece -/
noncomputable def t_p_read_1 : T := (tV (mOp opLt (mV 3) (mB bLen (mV 0))))
noncomputable def c_p_read_1 : S := (sCons (sSet 4 (mOp opIx (mV 0) (mV 3)))
    (sCons (sSet 5 (mOp opIx (mOp opIx (mV 1) (mNeg (mC (.int 1)))) (mC (.int 0))))
    (sCons (sSet 6 (mOp opIx (mOp opIx (mV 1) (mNeg (mC (.int 1)))) (mC (.int 1))))
    (sCons (sIf (tV (mOp opEq (mV 4) (mC (.str [40])))) (sSet 1 (mCall f_p_opened (aCons (mV 1) aNil))) (sIf (tV (mOp opEq (mV 4) (mC (.str [41])))) (sSet 1 (mCall f_p_closed (aCons (mV 1) aNil))) (sIf (tV (mOp opEq (mV 4) (mC (.str [124])))) (sSet 1 (mOp opAdd (mSl (mV 1) poN (poS (mNeg (mC (.int 1))))) (mLst (aCons (mTup (aCons (mOp opAdd (mV 5) (mLst (aCons (mCall f_p_row_of (aCons (mV 6) aNil)) aNil))) (aCons (mLst aNil) aNil))) aNil)))) (sIf (tOr (tV (mOp opEq (mV 4) (mC (.str [42])))) (tV (mOp opEq (mV 4) (mC (.str [63]))))) (sCons (sSet 7 (mOp opNe (mSl (mV 0) (poS (mOp opAdd (mV 3) (mC (.int 1)))) (poS (mOp opAdd (mV 3) (mC (.int 2))))) (mC (.str [33]))))
    (sCons (sSet 8 (mCall f_p_repeated (aCons (mV 4) (aCons (mV 2) (aCons (mV 6) (aCons (mV 7) aNil))))))
    (sCons (sSet 1 (mOp opAdd (mSl (mV 1) poN (poS (mNeg (mC (.int 1))))) (mLst (aCons (mTup (aCons (mV 5) (aCons (mOp opAdd (mSl (mV 6) poN (poS (mNeg (mC (.int 1))))) (mLst (aCons (mV 8) aNil))) aNil))) aNil))))
    (sIf (tNot (tT (mV 7))) (sSet 3 (mOp opAdd (mV 3) (mC (.int 1)))) sNil)))) (sCons (sSet 9 (mCall f_p_piece_at (aCons (mV 0) (aCons (mV 3) aNil))))
    (sCons (sSet 1 (mOp opAdd (mSl (mV 1) poN (poS (mNeg (mC (.int 1))))) (mLst (aCons (mTup (aCons (mV 5) (aCons (mOp opAdd (mV 6) (mLst (aCons (mOp opIx (mV 9) (mC (.int 0))) aNil))) aNil))) aNil))))
    (sSet 3 (mOp opSub (mOp opIx (mV 9) (mC (.int 1))) (mC (.int 1))))))))))
    (sCons (sSet 2 (mOp opNotIn (mV 4) (mC (.str [40, 124, 42, 63]))))
    (sSet 3 (mOp opAdd (mV 3) (mC (.int 1)))))))))
noncomputable def b_p_read_5 : S := (sRet (mCall f_p_pick_of (aCons (mOp opAdd (mOp opIx (mOp opIx (mV 1) (mC (.int 0))) (mC (.int 0))) (mLst (aCons (mCall f_p_row_of (aCons (mOp opIx (mOp opIx (mV 1) (mC (.int 0))) (mC (.int 1))) aNil)) aNil))) aNil)))
noncomputable def b_p_read_4 : S := (sCons (sIf (tV (mOp opGt (mB bLen (mV 1)) (mC (.int 1)))) (sRaise 0) sNil) b_p_read_5)
noncomputable def b_p_read_3 : S := (sCons (sWhile t_p_read_1 c_p_read_1) b_p_read_4)
noncomputable def b_p_read_2 : S := (sCons (sSet 3 (mC (.int 0))) b_p_read_3)
noncomputable def b_p_read_1 : S := (sCons (sSet 2 (mC (.bl false))) b_p_read_2)
noncomputable def b_p_read  : S :=
  (sCons (sSet 1 (mLst (aCons (mTup (aCons (mLst aNil) (aCons (mLst aNil) aNil))) aNil))) b_p_read_1)
noncomputable def f_p_read : List D → R D := fun ds => run 10 b_p_read ds
/-- parted(entry, then, eager); 0 entry, 1 then, 2 eager -/
noncomputable def b_p_parted  : S :=
  (sCons (sIf (tT (mV 2)) (sRet (mTup (aCons (mC (.str [112, 97, 114, 116])) (aCons (mV 0) (aCons (mV 1) aNil))))) sNil)
    (sRet (mTup (aCons (mC (.str [112, 97, 114, 116])) (aCons (mV 1) (aCons (mV 0) aNil))))))
noncomputable def f_p_parted : List D → R D := fun ds => (run 3 b_p_parted ds).nox
/-- picked(parts, then, steps); 0 parts, 1 then, 2 steps, 3 entries, 4 part, 5 here, 6 entry -/
noncomputable def b_p_picked (r_p_built : F) : S :=
  (sCons (sSet 3 (mLc 4 (iSeq (mV 0)) tYes (mCallG r_p_built (aCons (mV 4) (aCons (mV 1) (aCons (mV 2) aNil))))))
    (sCons (sSet 5 (mOp opIx (mV 3) (mNeg (mC (.int 1)))))
    (sCons (sFor 6 (iRev (mSl (mV 3) poN (poS (mNeg (mC (.int 1)))))) (sCons (sEx (mApp (mV 2) (mTup (aCons (mC (.str [112, 97, 114, 116])) (aCons (mV 6) (aCons (mV 5) aNil))))))
    (sSet 5 (mOp opSub (mB bLen (mV 2)) (mC (.int 1))))))
    (sRet (mV 5)))))
/-- built(tree, then, steps); 0 tree, 1 then, 2 steps, 3 part, 4 here -/
noncomputable def b_p_built (r_p_picked : F) (r_p_built : F) : S :=
  (sCons (sIf (tV (mOp opEq (mOp opIx (mV 0) (mC (.int 0))) (mC (.str [116, 97, 107, 101])))) (sCons (sEx (mApp (mV 2) (mTup (aCons (mC (.str [116, 97, 107, 101])) (aCons (mOp opIx (mV 0) (mC (.int 1))) (aCons (mOp opIx (mV 0) (mC (.int 2))) (aCons (mV 1) aNil)))))))
    (sRet (mOp opSub (mB bLen (mV 2)) (mC (.int 1))))) sNil)
    (sCons (sIf (tV (mOp opEq (mOp opIx (mV 0) (mC (.int 0))) (mC (.str [114, 111, 119])))) (sCons (sFor 3 (iRev (mOp opIx (mV 0) (mC (.int 1)))) (sSet 1 (mCallG r_p_built (aCons (mV 3) (aCons (mV 1) (aCons (mV 2) aNil))))))
    (sRet (mV 1))) sNil)
    (sCons (sIf (tV (mOp opEq (mOp opIx (mV 0) (mC (.int 0))) (mC (.str [112, 105, 99, 107])))) (sRet (mCallG r_p_picked (aCons (mOp opIx (mV 0) (mC (.int 1))) (aCons (mV 1) (aCons (mV 2) aNil))))) sNil)
    (sCons (sSet 4 (mB bLen (mV 2)))
    (sCons (sEx (mApp (mV 2) (mC .non)))
    (sCons (sIf (tV (mOp opEq (mOp opIx (mV 0) (mC (.int 0))) (mC (.str [109, 97, 110, 121])))) (sPut (mV 2) (mV 4) (mCall f_p_parted (aCons (mCallG r_p_built (aCons (mOp opIx (mV 0) (mC (.int 1))) (aCons (mV 4) (aCons (mV 2) aNil)))) (aCons (mV 1) (aCons (mOp opIx (mV 0) (mC (.int 2))) aNil))))) (sPut (mV 2) (mV 4) (mCall f_p_parted (aCons (mCallG r_p_built (aCons (mOp opIx (mV 0) (mC (.int 1))) (aCons (mV 1) (aCons (mV 2) aNil)))) (aCons (mV 1) (aCons (mOp opIx (mV 0) (mC (.int 2))) aNil))))))
    (sRet (mV 4))))))))
mutual
noncomputable def f_p_picked : Nat → F
  | 0 => fun _ _ => .bad
  | n + 1 => fun ds s => (runG 7 (b_p_picked (f_p_built n)) ds s).nox
noncomputable def f_p_built : Nat → F
  | 0 => fun _ _ => .bad
  | n + 1 => fun ds s => (runG 5 (b_p_built (f_p_picked n) (f_p_built n)) ds s).nox
end
/-- net_of(tree); 0 tree, 1 steps, 2 start -/
noncomputable def b_p_net_of  : S :=
  (sCons (sOwnL 1 (aCons (mTup (aCons (mC (.str [101, 110, 100])) aNil)) aNil))
    (sCons (sSet 2 (mCallG (f_p_built 200) (aCons (mV 0) (aCons (mC (.int 0)) (aCons (mV 1) aNil)))))
    (sRet (mTup (aCons (mV 2) (aCons (mV 1) aNil))))))
noncomputable def f_p_net_of : List D → R D := fun ds => (run 3 b_p_net_of ds).nox
/-- led_in(net, row, seen, step, begin); 0 net, 1 row, 2 seen, 3 step, 4 begin, 5 waiting, 6 here, 7 kind -/
noncomputable def t_p_led_in_1 : T := (tT (mV 5))
noncomputable def c_p_led_in_1 : S := (sCons (sSet 6 (mPop (mV 5)))
    (sCons (sIf (tV (mOp opIn (mV 6) (mV 2))) sCt sNil)
    (sCons (sPut (mV 2) (mV 6) (mC (.bl true)))
    (sCons (sEx (mApp (mV 1) (mTup (aCons (mV 6) (aCons (mV 4) aNil)))))
    (sCons (sSet 7 (mOp opIx (mOp opIx (mV 0) (mC (.int 1))) (mV 6)))
    (sCons (sIf (tV (mOp opEq (mOp opIx (mV 7) (mC (.int 0))) (mC (.str [101, 110, 100])))) (sRet (mC (.bl true))) sNil)
    (sIf (tV (mOp opEq (mOp opIx (mV 7) (mC (.int 0))) (mC (.str [112, 97, 114, 116])))) (sCons (sEx (mApp (mV 5) (mOp opIx (mV 7) (mC (.int 2)))))
    (sEx (mApp (mV 5) (mOp opIx (mV 7) (mC (.int 1)))))) sNil)))))))
noncomputable def b_p_led_in  : S :=
  (sCons (sOwnL 5 (aCons (mV 3) aNil))
    (sCons (sWhile t_p_led_in_1 c_p_led_in_1)
    (sRet (mC (.bl false)))))
noncomputable def f_p_led_in : F := fun ds s => (runG 8 b_p_led_in ds s).nox
/-- row_behind(net, before, sign, place, is_open); 0 net, 1 before, 2 sign, 3 place, 4 is_open, 5 row, 6 seen, 7 pair, 8 step -/
noncomputable def c_p_row_behind_1 : S := (sCons (sSet 8 (mOp opIx (mOp opIx (mV 0) (mC (.int 1))) (mOp opIx (mV 7) (mC (.int 0)))))
    (sIf (tAnd (tV (mOp opEq (mOp opIx (mV 8) (mC (.int 0))) (mC (.str [116, 97, 107, 101])))) (tT (mCall f_p_takes (aCons (mOp opIx (mV 8) (mC (.int 1))) (aCons (mOp opIx (mV 8) (mC (.int 2))) (aCons (mV 2) aNil)))))) (sIf (tT (mCallG f_p_led_in (aCons (mV 0) (aCons (mV 5) (aCons (mV 6) (aCons (mOp opIx (mV 8) (mC (.int 3))) (aCons (mOp opIx (mV 7) (mC (.int 1))) aNil))))))) (sRet (mTup (aCons (mV 5) (aCons (mOp opIx (mV 7) (mC (.int 1))) aNil)))) sNil) sNil))
noncomputable def b_p_row_behind  : S :=
  (sCons (sOwnL 5 aNil)
    (sCons (sSet 6 mOwnDI)
    (sCons (sFor 7 (iSeq (mV 1)) c_p_row_behind_1)
    (sCons (sIf (tAnd (tT (mV 4)) (tT (mCallG f_p_led_in (aCons (mV 0) (aCons (mV 5) (aCons (mV 6) (aCons (mOp opIx (mV 0) (mC (.int 0))) (aCons (mV 3) aNil)))))))) (sRet (mTup (aCons (mV 5) (aCons (mV 3) aNil)))) sNil)
    (sRet (mTup (aCons (mV 5) (aCons (mC .non) aNil))))))))
noncomputable def f_p_row_behind : List D → R D := fun ds => (run 9 b_p_row_behind ds).nox
/-- sweep(net, text); 0 net, 1 text, 2 found, 3 kept, 4 before, 5 place, 6 sign, 7 told -/
noncomputable def c_p_sweep_1 : S := (sCons (sSet 6 (mIf (tV (mOp opGt (mV 5) (mC (.int 0)))) (mOp opIx (mV 1) (mOp opSub (mV 5) (mC (.int 1)))) (mC (.str []))))
    (sCons (sSet 7 (mCall f_p_row_behind (aCons (mV 0) (aCons (mV 4) (aCons (mV 6) (aCons (mV 5) (aCons (mOp opIs (mV 2) (mC .non)) aNil)))))))
    (sCons (sSet 4 (mOp opIx (mV 7) (mC (.int 0))))
    (sCons (sEx (mApp (mV 3) (mV 4)))
    (sIf (tV (mOp opIsNot (mOp opIx (mV 7) (mC (.int 1))) (mC .non))) (sSet 2 (mTup (aCons (mOp opIx (mV 7) (mC (.int 1))) (aCons (mOp opSub (mV 5) (mOp opIx (mV 7) (mC (.int 1)))) aNil)))) sNil)))))
noncomputable def b_p_sweep  : S :=
  (sCons (sSet 2 (mC .non))
    (sCons (sOwnL 3 aNil)
    (sCons (sSet 4 (mLst aNil))
    (sCons (sFor 5 (iR1 (mOp opAdd (mB bLen (mV 1)) (mC (.int 1)))) c_p_sweep_1)
    (sRet (mTup (aCons (mV 3) (aCons (mV 2) aNil))))))))
noncomputable def f_p_sweep : List D → R D := fun ds => (run 8 b_p_sweep ds).nox
/-- swept(net, text); 0 net, 1 text -/
noncomputable def b_p_swept  : S :=
  (sRet (mOp opIx (mCall f_p_sweep (aCons (mV 0) (aCons (mV 1) aNil))) (mC (.int 1))))
noncomputable def f_p_swept : List D → R D := fun ds => (run 2 b_p_swept ds).nox
/-- first(pattern, text); 0 pattern, 1 text -/
noncomputable def b_p_first  : S :=
  (sRet (mCall f_p_swept (aCons (mCall f_p_net_of (aCons (mCall f_p_read (aCons (mV 0) aNil)) aNil)) (aCons (mV 1) aNil))))
noncomputable def f_p_first : List D → R D := fun ds => run 2 b_p_first ds
/-- all_found(pattern, text); 0 pattern, 1 text, 2 net, 3 found, 4 at, 5 match -/
noncomputable def t_p_all_found_1 : T := (tV (mOp opLe (mV 4) (mB bLen (mV 1))))
noncomputable def c_p_all_found_1 : S := (sCons (sSet 5 (mCall f_p_swept (aCons (mV 2) (aCons (mSl (mV 1) (poS (mV 4)) poN) aNil))))
    (sCons (sIf (tV (mOp opIs (mV 5) (mC .non))) (sRet (mV 3)) sNil)
    (sCons (sEx (mApp (mV 3) (mTup (aCons (mOp opAdd (mV 4) (mOp opIx (mV 5) (mC (.int 0)))) (aCons (mOp opIx (mV 5) (mC (.int 1))) aNil)))))
    (sSet 4 (mOp opAdd (mOp opAdd (mV 4) (mOp opIx (mV 5) (mC (.int 0)))) (mOp opMax (mC (.int 1)) (mOp opIx (mV 5) (mC (.int 1)))))))))
noncomputable def b_p_all_found  : S :=
  (sCons (sSet 2 (mCall f_p_net_of (aCons (mCall f_p_read (aCons (mV 0) aNil)) aNil)))
    (sCons (sOwnL 3 aNil)
    (sCons (sSet 4 (mC (.int 0)))
    (sCons (sWhile t_p_all_found_1 c_p_all_found_1)
    (sRet (mV 3))))))
noncomputable def f_p_all_found : List D → R D := fun ds => run 6 b_p_all_found ds
/-- _law_cell_at(_law_script, _law_k); 0 _law_script, 1 _law_k -/
noncomputable def b_l_cell_at  : S :=
  (sCons (sIf (tV (mOp opLt (mV 1) (mB bLen (mV 0)))) (sRet (mOp opIx (mV 0) (mV 1))) sNil)
    (sRet (mC (.int 0))))
noncomputable def f_l_cell_at : List D → R D := fun ds => (run 2 b_l_cell_at ds).nox
/-- _law_sign_by(_law_cell); 0 _law_cell, 1 _law_some -/
noncomputable def b_l_sign_by  : S :=
  (sCons (sSet 1 (mC (.str [32, 33, 34, 35, 36, 38, 39, 40, 41, 42, 43, 44, 45, 46, 47, 48, 49, 50, 51, 52, 53, 54, 55, 56, 57, 58, 59, 60, 61, 62, 63, 64, 65, 66, 67, 68, 69, 70, 71, 72, 73, 74, 75, 76, 77, 78, 79, 80, 81, 82, 83, 84, 85, 86, 87, 88, 89, 90, 91, 92, 93, 94, 95, 96])))
    (sCons (sSet 1 (mOp opAdd (mV 1) (mC (.str [97, 98, 99, 100, 101, 102, 103, 104, 105, 106, 107, 108, 109, 110, 111, 112, 113, 114, 115, 116, 117, 118, 119, 120, 121, 122, 123, 124, 125, 126, 10, 9]))))
    (sRet (mOp opIx (mV 1) (mOp opMod (mV 0) (mC (.int 96)))))))
noncomputable def f_l_sign_by : List D → R D := fun ds => (run 2 b_l_sign_by ds).nox
/-- _law_three_by(_law_cell); 0 _law_cell -/
noncomputable def b_l_three_by  : S :=
  (sRet (mOp opAdd (mOp opAdd (mCall f_l_sign_by (aCons (mV 0) aNil)) (mCall f_l_sign_by (aCons (mOp opAdd (mV 0) (mC (.int 31))) aNil))) (mCall f_l_sign_by (aCons (mOp opAdd (mV 0) (mC (.int 62))) aNil))))
noncomputable def f_l_three_by : List D → R D := fun ds => (run 1 b_l_three_by ds).nox
/-- _law_set_end(_law_pattern, _law_at); 0 _law_pattern, 1 _law_at -/
noncomputable def t_l_set_end_1 : T := (tAnd (tV (mOp opLt (mV 1) (mB bLen (mV 0)))) (tV (mOp opNe (mOp opIx (mV 0) (mV 1)) (mC (.str [93])))))
noncomputable def c_l_set_end_1 : S := (sCons (sIf (tV (mOp opEq (mOp opIx (mV 0) (mV 1)) (mC (.str [126])))) (sSet 1 (mOp opAdd (mV 1) (mC (.int 1)))) sNil)
    (sSet 1 (mOp opAdd (mV 1) (mC (.int 1)))))
noncomputable def b_l_set_end  : S :=
  (sCons (sWhile t_l_set_end_1 c_l_set_end_1)
    (sRet (mV 1)))
noncomputable def f_l_set_end : List D → R D := fun ds => (run 2 b_l_set_end ds).nox
/-- _law_closed(_law_frames); 0 _law_frames, 1 _law_last, 2 _law_above, 3 _law_is_bare -/
noncomputable def b_l_closed  : S :=
  (sCons (sSet 1 (mOp opIx (mV 0) (mNeg (mC (.int 1)))))
    (sCons (sSet 2 (mOp opIx (mV 0) (mNeg (mC (.int 2)))))
    (sCons (sSet 3 (mOr (mOp opIx (mV 1) (mC (.int 0))) (mAnd (mOp opIx (mV 1) (mC (.int 1))) (mOp opIx (mV 1) (mC (.int 2))))))
    (sRet (mOp opAdd (mSl (mV 0) poN (poS (mNeg (mC (.int 2))))) (mLst (aCons (mTup (aCons (mOp opIx (mV 2) (mC (.int 0))) (aCons (mAnd (mOp opIx (mV 2) (mC (.int 1))) (mOp opIx (mV 2) (mC (.int 2)))) (aCons (mV 3) aNil)))) aNil)))))))
noncomputable def f_l_closed : List D → R D := fun ds => (run 4 b_l_closed ds).nox
/-- _law_grouped(_law_frames, _law_sign); 0 _law_frames, 1 _law_sign, 2 _law_last -/
noncomputable def b_l_grouped_5 : S := (sRet (mCall f_l_closed (aCons (mV 0) aNil)))
noncomputable def b_l_grouped_4 : S := (sCons (sIf (tV (mOp opEq (mB bLen (mV 0)) (mC (.int 1)))) (sRet (mC (.str [117, 110, 111, 112, 101, 110, 101, 100]))) sNil) b_l_grouped_5)
noncomputable def b_l_grouped_3 : S := (sCons (sIf (tV (mOp opEq (mV 1) (mC (.str [124])))) (sRet (mOp opAdd (mSl (mV 0) poN (poS (mNeg (mC (.int 1))))) (mLst (aCons (mTup (aCons (mOr (mOp opIx (mV 2) (mC (.int 0))) (mAnd (mOp opIx (mV 2) (mC (.int 1))) (mOp opIx (mV 2) (mC (.int 2))))) (aCons (mC (.bl true)) (aCons (mC (.bl true)) aNil)))) aNil)))) sNil) b_l_grouped_4)
noncomputable def b_l_grouped_2 : S := (sCons (sIf (tV (mOp opEq (mV 1) (mC (.str [40])))) (sRet (mOp opAdd (mV 0) (mLst (aCons (mTup (aCons (mC (.bl false)) (aCons (mC (.bl true)) (aCons (mC (.bl true)) aNil)))) aNil)))) sNil) b_l_grouped_3)
noncomputable def b_l_grouped_1 : S := (sCons (sIf (tAnd (tV (mOp opEq (mV 1) (mC (.str [40])))) (tV (mOp opGt (mB bLen (mV 0)) (mC (.int 30))))) (sRet (mC (.str [100, 101, 101, 112]))) sNil) b_l_grouped_2)
noncomputable def b_l_grouped  : S :=
  (sCons (sSet 2 (mOp opIx (mV 0) (mNeg (mC (.int 1))))) b_l_grouped_1)
noncomputable def f_l_grouped : List D → R D := fun ds => (run 3 b_l_grouped ds).nox
/-- _law_wrong_repeat(_law_sign, _law_ready, _law_last); 0 _law_sign, 1 _law_ready, 2 _law_last -/
noncomputable def b_l_wrong_repeat  : S :=
  (sCons (sIf (tNot (tT (mV 1))) (sRet (mC (.str [110, 111, 116, 104, 105, 110, 103]))) sNil)
    (sCons (sIf (tAnd (tV (mOp opEq (mV 0) (mC (.str [42])))) (tT (mOp opIx (mV 2) (mC (.int 2))))) (sRet (mC (.str [114, 111, 117, 110, 100]))) sNil)
    (sRet (mC (.str [])))))
noncomputable def f_l_wrong_repeat : List D → R D := fun ds => (run 3 b_l_wrong_repeat ds).nox
/-- _law_due(_law_pattern); 0 _law_pattern, 1 _law_frames, 2 _law_ready, 3 _law_at, 4 _law_sign, 5 _law_last, 6 _law_wrong -/
noncomputable def t_l_due_1 : T := (tV (mOp opLt (mV 3) (mB bLen (mV 0))))
noncomputable def c_l_due_1 : S := (sCons (sSet 4 (mOp opIx (mV 0) (mV 3)))
    (sCons (sSet 5 (mOp opIx (mV 1) (mNeg (mC (.int 1)))))
    (sCons (sIf (tV (mOp opIn (mV 4) (mC (.str [40, 124, 41])))) (sCons (sSet 1 (mCall f_l_grouped (aCons (mV 1) (aCons (mV 4) aNil))))
    (sIf (tT (mB (isTy .str) (mV 1))) (sRet (mV 1)) sNil)) (sIf (tV (mOp opIn (mV 4) (mC (.str [42, 63])))) (sCons (sSet 6 (mCall f_l_wrong_repeat (aCons (mV 4) (aCons (mV 2) (aCons (mV 5) aNil)))))
    (sCons (sIf (tV (mOp opNe (mV 6) (mC (.str [])))) (sRet (mV 6)) sNil)
    (sCons (sSet 1 (mOp opAdd (mSl (mV 1) poN (poS (mNeg (mC (.int 1))))) (mLst (aCons (mTup (aCons (mOp opIx (mV 5) (mC (.int 0))) (aCons (mOp opIx (mV 5) (mC (.int 1))) (aCons (mC (.bl true)) aNil)))) aNil))))
    (sIf (tV (mOp opEq (mSl (mV 0) (poS (mOp opAdd (mV 3) (mC (.int 1)))) (poS (mOp opAdd (mV 3) (mC (.int 2))))) (mC (.str [33])))) (sSet 3 (mOp opAdd (mV 3) (mC (.int 1)))) sNil)))) (sCons (sIf (tV (mOp opEq (mV 4) (mC (.str [93])))) (sRet (mC (.str [117, 110, 111, 112, 101, 110, 101, 100]))) sNil)
    (sCons (sIf (tV (mOp opEq (mV 4) (mC (.str [91])))) (sSet 3 (mCall f_l_set_end (aCons (mV 0) (aCons (mOp opAdd (mV 3) (mC (.int 1))) aNil)))) sNil)
    (sCons (sIf (tV (mOp opEq (mV 4) (mC (.str [126])))) (sSet 3 (mOp opAdd (mV 3) (mC (.int 1)))) sNil)
    (sCons (sIf (tV (mOp opGe (mV 3) (mB bLen (mV 0)))) (sRet (mC (.str [117, 110, 99, 108, 111, 115, 101, 100]))) sNil)
    (sSet 1 (mOp opAdd (mSl (mV 1) poN (poS (mNeg (mC (.int 1))))) (mLst (aCons (mTup (aCons (mOp opIx (mV 5) (mC (.int 0))) (aCons (mAnd (mOp opIx (mV 5) (mC (.int 1))) (mOp opIx (mV 5) (mC (.int 2)))) (aCons (mC (.bl false)) aNil)))) aNil))))))))))
    (sCons (sSet 2 (mOp opNotIn (mV 4) (mC (.str [40, 124, 42, 63]))))
    (sSet 3 (mOp opAdd (mV 3) (mC (.int 1))))))))
noncomputable def b_l_due  : S :=
  (sCons (sSet 1 (mLst (aCons (mTup (aCons (mC (.bl false)) (aCons (mC (.bl true)) (aCons (mC (.bl true)) aNil)))) aNil)))
    (sCons (sSet 2 (mC (.bl false)))
    (sCons (sSet 3 (mC (.int 0)))
    (sCons (sWhile t_l_due_1 c_l_due_1)
    (sRet (mIf (tV (mOp opGt (mB bLen (mV 1)) (mC (.int 1)))) (mC (.str [117, 110, 99, 108, 111, 115, 101, 100])) (mC (.str []))))))))
noncomputable def f_l_due : List D → R D := fun ds => (run 7 b_l_due ds).nox
/-- _law_asked(_law_pattern, _law_way); 0 _law_pattern, 1 _law_way, 2 _law_found -/
noncomputable def b_l_asked  : S :=
  (sCons (sIf (tV (mOp opEq (mV 1) (mC (.int 0)))) (sRet (mB (isTy .tuple) (mCall f_p_read (aCons (mV 0) aNil)))) sNil)
    (sCons (sIf (tV (mOp opEq (mV 1) (mC (.int 1)))) (sCons (sSet 2 (mCall f_p_first (aCons (mV 0) (aCons (mC (.str [97, 32, 98])) aNil))))
    (sRet (mOr (mOp opIs (mV 2) (mC .non)) (mB (isTy .tuple) (mV 2))))) sNil)
    (sRet (mB (isTy .list) (mCall f_p_all_found (aCons (mV 0) (aCons (mC (.str [])) aNil)))))))
noncomputable def f_l_asked : List D → R D := fun ds => run 3 b_l_asked ds
/-- _law_refusal(_law_pattern, _law_way); 0 _law_pattern, 1 _law_way -/
noncomputable def b_l_refusal  : S :=
  (sTryR (sRet (mIf (tT (mCall f_l_asked (aCons (mV 0) (aCons (mV 1) aNil)))) (mC (.str [])) (mC (.str [110, 111, 32, 97, 110, 115, 119, 101, 114])))) [(0, [117, 110, 99, 108, 111, 115, 101, 100]), (1, [117, 110, 111, 112, 101, 110, 101, 100]), (2, [110, 111, 116, 104, 105, 110, 103]), (3, [114, 111, 117, 110, 100]), (4, [100, 101, 101, 112])])
noncomputable def f_l_refusal : List D → R D := fun ds => (run 2 b_l_refusal ds).nox
/-- _law_one_class(_law_pattern); 0 _law_pattern, 1 e, 2 _law_told, 3 _law_one -/
noncomputable def b_l_one_class  : S :=
  (sCons (sTry1 (sEx (mCall f_p_read (aCons (mV 0) aNil))))
    (sRet (mC (.bl false))))
noncomputable def f_l_one_class : List D → R D := fun ds => (run 4 b_l_one_class ds).nox
/-- _law_piece_by(_law_cell, _law_three); 0 _law_cell, 1 _law_three, 2 _law_some, 3 _law_way, 4 _law_rest -/
noncomputable def b_l_piece_by_7 : S := (sRet (mOp opIx (mC (.str [40, 124, 41, 42, 63, 33])) (mOp opMod (mV 4) (mC (.int 6)))))
noncomputable def b_l_piece_by_6 : S := (sCons (sIf (tV (mOp opEq (mV 3) (mC (.int 3)))) (sRet (mOp opIx (mV 2) (mOp opMod (mV 4) (mC (.int 9))))) sNil) b_l_piece_by_7)
noncomputable def b_l_piece_by_5 : S := (sCons (sIf (tV (mOp opEq (mV 3) (mC (.int 2)))) (sRet (mOp opIx (mC (.str [40, 41, 124, 42, 63, 46, 91, 93, 126, 33])) (mOp opMod (mV 4) (mC (.int 10))))) sNil) b_l_piece_by_6)
noncomputable def b_l_piece_by_4 : S := (sCons (sIf (tV (mOp opEq (mV 3) (mC (.int 1)))) (sRet (mOp opIx (mV 1) (mOp opMod (mV 4) (mC (.int 3))))) sNil) b_l_piece_by_5)
noncomputable def b_l_piece_by_3 : S := (sCons (sIf (tV (mOp opEq (mV 3) (mC (.int 0)))) (sRet (mCall f_l_sign_by (aCons (mV 4) aNil))) sNil) b_l_piece_by_4)
noncomputable def b_l_piece_by_2 : S := (sCons (sSet 4 (mOp opDiv (mV 0) (mC (.int 5)))) b_l_piece_by_3)
noncomputable def b_l_piece_by_1 : S := (sCons (sSet 3 (mOp opMod (mV 0) (mC (.int 5)))) b_l_piece_by_2)
noncomputable def b_l_piece_by  : S :=
  (sCons (sSet 2 (mLst (aCons (mC (.str [40, 97, 41])) (aCons (mC (.str [40, 97, 98, 124, 99, 41])) (aCons (mC (.str [91, 97, 98, 93])) (aCons (mC (.str [91, 33, 93])) (aCons (mC (.str [40, 97, 63, 41])) (aCons (mC (.str [40, 41])) (aCons (mC (.str [40, 124, 97, 41])) (aCons (mC (.str [97, 42])) (aCons (mC (.str [126, 41])) aNil))))))))))) b_l_piece_by_1)
noncomputable def f_l_piece_by : List D → R D := fun ds => (run 5 b_l_piece_by ds).nox
/-- law(_law_script); 0 _law_script, 1 _law_three, 2 _law_pattern, 3 _law_cell, 4 _law_deep, 5 _law_less, 6 _law_due_here, 7 _law_way -/
noncomputable def c_l_law_1 : S := (sIf (tV (mOp opNe (mCall f_l_refusal (aCons (mV 2) (aCons (mV 7) aNil))) (mV 6))) (sRet (mC (.bl false))) sNil)
noncomputable def b_l_law_5 : S := (sRet (mOr (mOp opEq (mV 6) (mC (.str []))) (mCall f_l_one_class (aCons (mV 2) aNil))))
noncomputable def b_l_law_4 : S := (sCons (sFor 7 (iR1 (mC (.int 3))) c_l_law_1) b_l_law_5)
noncomputable def b_l_law_3 : S := (sCons (sSet 6 (mCall f_l_due (aCons (mV 2) aNil))) b_l_law_4)
noncomputable def b_l_law_2 : S := (sCons (sIf (tV (mOp opEq (mOp opMod (mCall f_l_cell_at (aCons (mV 0) (aCons (mC (.int 1)) aNil))) (mC (.int 4))) (mC (.int 1)))) (sCons (sSet 4 (mOp opAdd (mC (.int 25)) (mOp opMod (mCall f_l_cell_at (aCons (mV 0) (aCons (mC (.int 2)) aNil))) (mC (.int 11)))))
    (sCons (sSet 5 (mOp opSub (mOp opMod (mOp opDiv (mCall f_l_cell_at (aCons (mV 0) (aCons (mC (.int 1)) aNil))) (mC (.int 4))) (mC (.int 4))) (mC (.int 1))))
    (sSet 2 (mOp opAdd (mOp opAdd (mOp opMul (mC (.str [40])) (mV 4)) (mV 2)) (mOp opMul (mC (.str [41])) (mOp opSub (mV 4) (mV 5))))))) sNil) b_l_law_3)
noncomputable def b_l_law_1 : S := (sCons (sSet 2 (mB (joinD []) (mLc 3 (iSeq (mSl (mV 0) (poS (mC (.int 3))) (poS (mC (.int 150))))) tYes (mCall f_l_piece_by (aCons (mV 3) (aCons (mV 1) aNil)))))) b_l_law_2)
noncomputable def b_l_law  : S :=
  (sCons (sSet 1 (mCall f_l_three_by (aCons (mCall f_l_cell_at (aCons (mV 0) (aCons (mC (.int 0)) aNil))) aNil))) b_l_law_1)
noncomputable def f_l_law : List D → R D := fun ds => (run 8 b_l_law ds).nox
end Bd
end
section
namespace Mt
open Mini Bd
def cellAt (ns : List Int) (k : Nat) : Int := ns.getD k 0
theorem cell_at (ns : List Int) (k : Nat) : f_l_cell_at [.scr ns, .int k] = .ok (.int (cellAt ns k)) := by
  by_cases hk : k < ns.length
  · simp [f_l_cell_at, run_eq, b_l_cell_at, hk, pos, cellAt]
  · simp [f_l_cell_at, run_eq, b_l_cell_at, hk, pos, cellAt]
theorem cell_i (ns : List Int) (i : Int) (k : Nat) (h : i = (k : Int)) : f_l_cell_at [.scr ns, .int i] = .ok (.int (cellAt ns k)) := by subst h; exact cell_at ns k
def tbl : List Nat := [32, 33, 34, 35, 36, 38, 39, 40, 41, 42, 43, 44, 45, 46, 47, 48, 49, 50, 51, 52, 53, 54, 55, 56, 57, 58, 59, 60, 61, 62, 63, 64, 65, 66, 67, 68, 69, 70, 71, 72, 73, 74, 75, 76, 77, 78, 79, 80, 81, 82, 83, 84, 85, 86, 87, 88, 89, 90, 91, 92, 93, 94, 95, 96, 97, 98, 99, 100, 101, 102, 103, 104, 105, 106, 107, 108, 109, 110, 111, 112, 113, 114, 115, 116, 117, 118, 119, 120, 121, 122, 123, 124, 125, 126, 10, 9]
theorem tbl_len : tbl.length = 96 := by decide
def sg (c : Int) : Nat := at0 tbl (c % 96).toNat
theorem sign_by (c : Int) : f_l_sign_by [.int c] = .ok (.str [sg c]) := by
  have e := opIx_str [] tbl (c % 96) (by omega) (by rw [tbl_len]; omega) (by rw [tbl_len]; decide)
  rw [show tbl = [32, 33, 34, 35, 36, 38, 39, 40, 41, 42, 43, 44, 45, 46, 47, 48, 49, 50, 51, 52, 53, 54, 55, 56, 57, 58, 59, 60, 61, 62, 63, 64, 65, 66, 67, 68, 69, 70, 71, 72, 73, 74, 75, 76, 77, 78, 79, 80, 81, 82, 83, 84, 85, 86, 87, 88, 89, 90, 91, 92, 93, 94, 95, 96] ++ [97, 98, 99, 100, 101, 102, 103, 104, 105, 106, 107, 108, 109, 110, 111, 112, 113, 114, 115, 116, 117, 118, 119, 120, 121, 122, 123, 124, 125, 126, 10, 9] from rfl] at e
  simp only [List.cons_append, List.nil_append] at e
  simp [f_l_sign_by, run_eq, b_l_sign_by, e]
  rfl
theorem three_by (c : Int) : f_l_three_by [.int c] = .ok (.str [sg c, sg (c + 31), sg (c + 62)]) := by
  simp [f_l_three_by, run_eq, b_l_three_by, sign_by]
/-! the trees -/
inductive Tr where
  | take (b : Bool) (z : List Nat) | row (ps : List Tr) | pick (ps : List Tr) | maybe (t : Tr) (g : Bool) | many (t : Tr) (g : Bool)
mutual
def td : Tr → D
  | .take b z => .tup [.str [116, 97, 107, 101], .bl b, .str z]
  | .row ps => .tup [.str [114, 111, 119], .tup (tdL ps)]
  | .pick ps => .tup [.str [112, 105, 99, 107], .tup (tdL ps)]
  | .maybe t g => .tup [.str [109, 97, 121, 98, 101], td t, .bl g]
  | .many t g => .tup [.str [109, 97, 110, 121], td t, .bl g]
def tdL : List Tr → List D
  | [] => []
  | t :: ts => td t :: tdL ts
end
theorem tdL_eq : ∀ ps : List Tr, tdL ps = ps.map td
  | [] => rfl
  | t :: ts => by rw [tdL, tdL_eq ts]; rfl
theorem td_take (b : Bool) (z : List Nat) : td (.take b z) = .tup [.str [116, 97, 107, 101], .bl b, .str z] := by rw [td]
theorem td_row (ps : List Tr) : td (.row ps) = .tup [.str [114, 111, 119], .tup (ps.map td)] := by rw [td, tdL_eq]
theorem td_pick (ps : List Tr) : td (.pick ps) = .tup [.str [112, 105, 99, 107], .tup (ps.map td)] := by rw [td, tdL_eq]
theorem td_maybe (t : Tr) (g : Bool) : td (.maybe t g) = .tup [.str [109, 97, 121, 98, 101], td t, .bl g] := by rw [td]
theorem td_many (t : Tr) (g : Bool) : td (.many t g) = .tup [.str [109, 97, 110, 121], td t, .bl g] := by rw [td]
mutual
def bare : Tr → Bool
  | .take _ _ => false
  | .row ps => bareA ps
  | .pick ps => bareE ps
  | .maybe _ _ => true
  | .many _ _ => true
def bareA : List Tr → Bool
  | [] => true
  | t :: ts => bare t && bareA ts
def bareE : List Tr → Bool
  | [] => false
  | t :: ts => bare t || bareE ts
end
theorem bareA_eq : ∀ ps : List Tr, bareA ps = (ps.map bare).all id
  | [] => rfl
  | t :: ts => by rw [bareA, bareA_eq ts]; rfl
theorem bareE_eq : ∀ ps : List Tr, bareE ps = (ps.map bare).any id
  | [] => rfl
  | t :: ts => by rw [bareE, bareE_eq ts]; rfl
mutual
/-- the count that the builder keeps -/
def sz : Tr → Int
  | .take _ _ => 1
  | .row ps => szL ps
  | .pick ps => szL ps + ps.length - 1
  | .maybe t _ => sz t + 1
  | .many t _ => sz t + 1
def szL : List Tr → Int
  | [] => 0
  | t :: ts => sz t + szL ts
end
theorem szL_eq : ∀ ps : List Tr, szL ps = (ps.map sz).sum
  | [] => rfl
  | t :: ts => by rw [szL, szL_eq ts]; rfl
mutual
/-- how deep -/
def hi : Tr → Nat
  | .take _ _ => 1
  | .row ps => hiL ps + 1
  | .pick ps => hiL ps + 1
  | .maybe t _ => hi t + 1
  | .many t _ => hi t + 1
def hiL : List Tr → Nat
  | [] => 0
  | t :: ts => max (hi t) (hiL ts)
end
theorem hi_mem {ps : List Tr} {t : Tr} (h : t ∈ ps) : hi t ≤ hiL ps := by
  induction ps with
  | nil => exact absurd h (List.not_mem_nil)
  | cons x xs ih =>
    rw [hiL]
    rcases List.mem_cons.mp h with rfl | h
    · omega
    · have := ih h; omega
theorem hiL_le {ps : List Tr} {n : Nat} (h : ∀ t ∈ ps, hi t ≤ n) : hiL ps ≤ n := by
  induction ps with
  | nil => rw [hiL]; omega
  | cons x xs ih =>
    rw [hiL]
    have := h x List.mem_cons_self
    have := ih fun t ht => h t (List.mem_cons_of_mem _ ht)
    omega
theorem maxI_hi : ∀ (x : Tr) (ps : List Tr), maxI ((x :: ps).map fun t => (hi t : Int)) = (hiL (x :: ps) : Int)
  | x, [] => by simp [maxI, hiL]
  | x, y :: ps => by
    have := maxI_hi y ps
    rw [List.map_cons] at this
    have e : hiL (x :: y :: ps) = max (hi x) (hiL (y :: ps)) := by rw [hiL]
    rw [List.map_cons, List.map_cons, maxI, this, e]
    omega
mutual
/-- how many nodes -/
def nd : Tr → Nat
  | .take _ _ => 1
  | .row ps => ndL ps + 1
  | .pick ps => ndL ps + 1
  | .maybe t _ => nd t + 1
  | .many t _ => nd t + 1
def ndL : List Tr → Nat
  | [] => 0
  | t :: ts => nd t + ndL ts
end
theorem ndL_app (a b : List Tr) : ndL (a ++ b) = ndL a + ndL b := by
  induction a with
  | nil => rw [List.nil_append, ndL]; omega
  | cons x xs ih => rw [List.cons_append, ndL, ndL, ih]; omega
mutual
/-- well made: the signs of a take, what many holds, no row of one, no pick of less than two -/
def wf : Tr → Bool
  | .take _ z => decide (z.length ≤ 1000) && z.all fun c => decide (c ∈ tbl)
  | .row ps => decide (ps.length ≠ 1 ∧ ps.length ≤ 5000) && wfL ps
  | .pick ps => decide (2 ≤ ps.length ∧ ps.length ≤ 5000) && wfL ps
  | .maybe t _ => wf t
  | .many t _ => wf t && !bare t
def wfL : List Tr → Bool
  | [] => true
  | t :: ts => wf t && wfL ts
end
theorem wfL_eq : ∀ ps : List Tr, wfL ps = ps.all wf
  | [] => rfl
  | t :: ts => by rw [wfL, wfL_eq ts]; rfl
theorem sz_nn_aux : ∀ n (t : Tr), hi t ≤ n → wf t = true → 0 ≤ sz t := by
  have aux : ∀ (P : Tr → Prop) (ps : List Tr), (∀ t ∈ ps, P t) → (∀ t ∈ ps, P t → 0 ≤ sz t) → 0 ≤ szL ps := by
    intro P ps h1 h2
    induction ps with
    | nil => rw [szL]; omega
    | cons x xs ih =>
      rw [szL]
      have := h2 x List.mem_cons_self (h1 x List.mem_cons_self)
      have := ih (fun t ht => h1 t (List.mem_cons_of_mem _ ht)) (fun t ht => h2 t (List.mem_cons_of_mem _ ht))
      omega
  intro n
  induction n with
  | zero => intro t h; cases t <;> simp [hi] at h
  | succ n ih =>
    intro t h hw
    cases t with
    | take b z => rw [sz]; omega
    | row ps =>
      rw [hi] at h; rw [wf, wfL_eq, Bool.and_eq_true, List.all_eq_true] at hw; rw [sz]
      exact aux (fun _ => True) ps (fun _ _ => trivial) fun t ht _ => ih t (by have := hi_mem ht; omega) (hw.2 t ht)
    | pick ps =>
      rw [hi] at h; rw [wf, wfL_eq, Bool.and_eq_true, decide_eq_true_eq, List.all_eq_true] at hw; rw [sz]
      have : 0 ≤ szL ps := aux (fun _ => True) ps (fun _ _ => trivial) fun t ht _ => ih t (by have := hi_mem ht; omega) (hw.2 t ht)
      have := hw.1.1
      omega
    | maybe t g => rw [hi] at h; rw [wf] at hw; rw [sz]; have := ih t (by omega) hw; omega
    | many t g => rw [hi] at h; rw [wf, Bool.and_eq_true] at hw; rw [sz]; have := ih t (by omega) hw.1; omega
theorem sz_nn {t : Tr} (h : wf t = true) : 0 ≤ sz t := sz_nn_aux _ t (Nat.le_refl _) h
/-- a row of the builder's stack -/
def entD (t : Tr) : D := .tup [td t, .bl (bare t), .int (sz t), .int (hi t)]
theorem sg_mem (c : Int) : sg c ∈ tbl := by
  have h1 : (c % 96).toNat < tbl.length := by rw [tbl_len]; omega
  unfold sg at0
  rw [List.getD_eq_getElem?_getD, List.getElem?_eq_getElem h1]
  exact List.getElem_mem h1
theorem at0_mem {z : List Nat} {k : Nat} (h : k < z.length) : at0 z k ∈ z := by
  unfold at0
  rw [List.getD_eq_getElem?_getD, List.getElem?_eq_getElem h]
  exact List.getElem_mem h
/-- three signs -/
def isThree (z : List Nat) : Prop := z.length = 3 ∧ ∀ c ∈ z, c ∈ tbl
theorem three_is (c : Int) : isThree [sg c, sg (c + 31), sg (c + 62)] := ⟨rfl, by
  intro x hx
  simp at hx
  rcases hx with rfl | rfl | rfl <;> exact sg_mem _⟩
theorem cut_hi {α : Type} (xs : List α) (n : Nat) : cut xs none (some (n : Int)) = xs.take n := by
  have h0 : ¬ ((n : Int) < 0) := by omega
  unfold cut six
  simp [h0]
theorem cut_lo {α : Type} (xs : List α) (n : Nat) (h : n ≤ xs.length) : cut xs (some (n : Int)) none = xs.drop n := by
  have h0 : ¬ ((n : Int) < 0) := by omega
  unfold cut six
  simp [h0, Nat.min_eq_left h]
  try (rw [List.take_of_length_le]; simp)
theorem cut_last {α : Type} (xs : List α) (h : 0 < xs.length) : cut xs none (some (-1)) = xs.dropLast := by
  unfold cut six
  simp
  rw [List.dropLast_eq_take]
  congr 1
  omega
theorem pos_last (n : Nat) : pos (n + 1) (-1) = some n := by unfold pos; simp; omega
theorem maxI_eq (ps : List Tr) (h : ps ≠ []) : ∃ x xs, ps = x :: xs ∧ maxI ((hi x : Int) :: xs.map fun t => (hi t : Int)) = (hiL ps : Int) := by
  cases ps with
  | nil => exact absurd rfl h
  | cons x xs => exact ⟨x, xs, rfl, maxI_hi x xs⟩
theorem bMax_hi (ps : List Tr) (h : ps ≠ []) : bMax (.lst (ps.map fun t => .int (hi t : Int))) = some (.int (hiL ps : Int)) := by
  obtain ⟨x, xs, rfl, e⟩ := maxI_eq ps h
  simp only [bMax, ints_map fun t => (hi t : Int)]
  rw [List.map_cons]
  simp only [e]
/-- what the comprehensions over the rows of the stack give -/
theorem lc_ent {i : Nat} {j : Int} {e : Env} (v : Tr → D) (ps : List Tr) (h : ∀ t ∈ ps, (mOp opIx (mV i) (mC (.int j))) (e.set i (some (entD t))) [] = .ok (v t, [])) : lcF i tYes (mOp opIx (mV i) (mC (.int j))) e (ps.map entD) [] = .ok (ps.map v, []) :=
  lcF_idx entD v ps fun t ht => ⟨h t ht, rfl⟩
mutual
theorem frz_free (n : Nat) (s : Sto) : ∀ d : D, free d = true → frz n s d = some d
  | .own k, h => by simp [free] at h
  | .tup ds, h => by
    have := frzL_free n s ds (by simpa [free] using h)
    simp [frz, this]
  | .non, _ => by simp [frz]
  | .bl _, _ => by simp [frz]
  | .int _, _ => by simp [frz]
  | .str _, _ => by simp [frz]
  | .lst _, _ => by simp [frz]
  | .scr _, _ => by simp [frz]
  | .dic _, _ => by simp [frz]
theorem frzL_free (n : Nat) (s : Sto) : ∀ ds : List D, freeL ds = true → frzL n s ds = some ds
  | [], _ => by simp [frzL]
  | d :: ds, h => by
    rw [freeL, Bool.and_eq_true] at h
    simp [frzL, frz_free n s d h.1, frzL_free n s ds h.2]
end
mutual
theorem free_td : ∀ t : Tr, free (td t) = true
  | .take b z => by rw [td]; rfl
  | .row ps => by rw [td]; simp [free_tdL ps]
  | .pick ps => by rw [td]; simp [free_tdL ps]
  | .maybe t g => by rw [td]; simp [free_td t]
  | .many t g => by rw [td]; simp [free_td t]
theorem free_tdL : ∀ ts : List Tr, freeL (tdL ts) = true
  | [] => rfl
  | t :: ts => by rw [tdL]; simp [free_td t, free_tdL ts]
end
theorem frz_td (n : Nat) (s : Sto) (t : Tr) : frz n s (td t) = some (td t) := frz_free n s _ (free_td t)
theorem wf_row {ps : List Tr} (h : wf (.row ps) = true) : (ps.length ≠ 1 ∧ ps.length ≤ 5000) ∧ ∀ t ∈ ps, wf t = true := by
  rw [wf, Bool.and_eq_true, decide_eq_true_eq, wfL_eq, List.all_eq_true] at h; exact h
theorem wf_pick {ps : List Tr} (h : wf (.pick ps) = true) : (2 ≤ ps.length ∧ ps.length ≤ 5000) ∧ ∀ t ∈ ps, wf t = true := by
  rw [wf, Bool.and_eq_true, decide_eq_true_eq, wfL_eq, List.all_eq_true] at h; exact h
theorem wf_take {b : Bool} {z : List Nat} (h : wf (.take b z) = true) : z.length ≤ 1000 ∧ ∀ c ∈ z, c ∈ tbl := by
  rw [wf] at h; simpa using h
theorem wf_many {t : Tr} {g : Bool} (h : wf (.many t g) = true) : wf t = true ∧ bare t = false := by
  rw [wf] at h; simpa using h
theorem wf_maybe {t : Tr} {g : Bool} (h : wf (.maybe t g) = true) : wf t = true := by
  rw [wf] at h; exact h
theorem mk_row {ps : List Tr} (h1 : ps.length ≠ 1) (h2 : ps.length ≤ 5000) (h : wfL ps = true) : wf (.row ps) = true := by
  rw [wf, h, decide_eq_true ⟨h1, h2⟩]; rfl
theorem mk_pick {ps : List Tr} (h1 : 2 ≤ ps.length) (h2 : ps.length ≤ 5000) (h : wfL ps = true) : wf (.pick ps) = true := by
  rw [wf, h, decide_eq_true ⟨h1, h2⟩]; rfl
/-- the comprehension of a def over the parts -/
theorem lc_parts {i : Nat} {m : M} {e : Env} (v : Tr → D) (hv : ∀ t, free (v t) = true) (ps : List Tr) (h : ∀ t ∈ ps, m (e.set i (some (td t))) [] = .ok (v t, [])) : lcF i tYes m e (ps.map td) [] = .ok (ps.map v, []) :=
  lcF_idx td v ps fun t ht => ⟨h t ht, rfl⟩
theorem p_bare : ∀ (n : Nat) (t : Tr), hi t ≤ n → wf t = true → f_p_bare n [td t] = .ok (.bl (bare t))
  | 0, t, h, _ => by cases t <;> rw [hi] at h <;> omega
  | n + 1, .take b z, _, _ => by simp [f_p_bare, run_eq, b_p_bare, td_take, pos, bare]
  | n + 1, .maybe t g, _, _ => by simp [f_p_bare, run_eq, b_p_bare, td_maybe, pos, bare]
  | n + 1, .many t g, _, _ => by simp [f_p_bare, run_eq, b_p_bare, td_many, pos, bare]
  | n + 1, .row ps, h, hw => by
    rw [hi] at h
    have hw := wf_row hw
    have q := lc_parts (i := 1) (m := (mCall (f_p_bare n) (aCons (mV 1) aNil))) (e := [some (td (.row ps)), none]) (fun t => .bl (bare t)) (fun _ => rfl) ps fun t ht => by
      have := p_bare n t (by have := hi_mem ht; omega) (hw.2 t ht)
      simp [this]
    have b1 : bAll (.lst (ps.map fun t => .bl (bare t))) = some (.bl (bareA ps)) := by simp only [bAll, bls_map bare, bareA_eq]; rfl
    rw [td_row] at q
    simp [f_p_bare, run_eq, b_p_bare, td_row, pos, bare, q, b1, show ps.length ≤ 16777216 by omega, -bAll]
  | n + 1, .pick ps, h, hw => by
    rw [hi] at h
    have hw := wf_pick hw
    have q := lc_parts (i := 1) (m := (mCall (f_p_bare n) (aCons (mV 1) aNil))) (e := [some (td (.pick ps)), none]) (fun t => .bl (bare t)) (fun _ => rfl) ps fun t ht => by
      have := p_bare n t (by have := hi_mem ht; omega) (hw.2 t ht)
      simp [this]
    have b1 : bAny (.lst (ps.map fun t => .bl (bare t))) = some (.bl (bareE ps)) := by simp only [bAny, bls_map bare, bareE_eq]; rfl
    rw [td_pick] at q
    simp [f_p_bare, run_eq, b_p_bare, td_pick, pos, bare, q, b1, show ps.length ≤ 16777216 by omega, -bAny]
/-! reading -/
def rw' (P : List Tr) : Tr := match P with
  | [t] => t
  | _ => .row P
def pk' (R : List Tr) : Tr := match R with
  | [t] => t
  | _ => .pick R
theorem row_of (P : List Tr) : f_p_row_of [.lst (P.map td)] = .ok (td (rw' P)) := by
  match P with
  | [] => simp [f_p_row_of, run_eq, b_p_row_of, rw', td_row]
  | [t] => simp [f_p_row_of, run_eq, b_p_row_of, rw', pos, frz_td]
  | t :: u :: r =>
    have h : ¬ ((r.length : Int) + 1 + 1 = 1) := by omega
    have e := frzL_free 0 [] (r.map td) (by rw [← tdL_eq]; exact free_tdL r)
    simp [f_p_row_of, run_eq, b_p_row_of, rw', td_row, h, frz_td, e]
theorem pick_of (P : List Tr) : f_p_pick_of [.lst (P.map td)] = .ok (td (pk' P)) := by
  match P with
  | [] => simp [f_p_pick_of, run_eq, b_p_pick_of, pk', td_pick]
  | [t] => simp [f_p_pick_of, run_eq, b_p_pick_of, pk', pos, frz_td]
  | t :: u :: r =>
    have h : ¬ ((r.length : Int) + 1 + 1 = 1) := by omega
    have e := frzL_free 0 [] (r.map td) (by rw [← tdL_eq]; exact free_tdL r)
    simp [f_p_pick_of, run_eq, b_p_pick_of, pk', td_pick, h, frz_td, e]
def frD (f : List Tr × List Tr) : D := .tup [.lst (f.1.map td), .lst (f.2.map td)]
theorem ix_last (s : Sto) (xs : List D) (d : D) : opIx s (.lst (xs ++ [d])) (.int (-1)) = some d := by
  rw [opIx_lst]; simp [pos_last]
theorem ix_last2 (s : Sto) (xs : List D) (d d2 : D) : opIx s (.lst (xs ++ [d, d2])) (.int (-2)) = some d := by
  rw [opIx_lst]
  have : pos (xs ++ [d, d2]).length (-2) = some xs.length := by unfold pos; simp; omega
  rw [this]; simp
theorem cut_last1 {α : Type} (xs : List α) (d : α) : cut (xs ++ [d]) none (some (-1)) = xs := by
  rw [cut_last _ (by simp)]; simp
theorem cut_last2 {α : Type} (xs : List α) (d d2 : α) : cut (xs ++ [d, d2]) none (some (-2)) = xs := by
  unfold cut six
  simp
  rw [show (-2 + ((xs.length : Int) + 2)).toNat = xs.length by omega]
  simp
theorem ix_at (s : Sto) (pre : List Nat) (c : Nat) (post : List Nat) (h : (pre ++ c :: post).length ≤ 16777216) : opIx s (.str (pre ++ c :: post)) (.int (pre.length : Int)) = some (.str [c]) := by
  rw [opIx_str_nat s _ _ (by simp) h]
  simp [at0]
theorem cut_at (pre post : List Nat) (k : Nat) : cut (pre ++ post) (some (pre.length : Int)) (some ((pre.length : Int) + (k : Int))) = post.take k := by
  have h0 : ¬ ((pre.length : Int) < 0) := by omega
  have h1 : ¬ ((pre.length : Int) + (k : Int) < 0) := by omega
  unfold cut six
  simp [h0, h1]
  by_cases h : k ≤ post.length
  · congr 1; omega
  · omega
theorem closed_of (base : List (List Tr × List Tr)) (R0 P0 R P : List Tr) (h1 : base.length ≤ 1000) (h2 : P0.length ≤ 10000) (h3 : R.length ≤ 10000) :
    f_p_closed [.lst ((base ++ [(R0, P0), (R, P)]).map frD)] = .ok (.lst ((base ++ [(R0, P0 ++ [pk' (R ++ [rw' P])])]).map frD)) := by
  have e1 := fun s => ix_last s (base.map frD ++ [frD (R0, P0)]) (frD (R, P))
  have e2 := fun s => ix_last2 s (base.map frD) (frD (R0, P0)) (frD (R, P))
  have e3 := cut_last2 (base.map frD) (frD (R0, P0)) (frD (R, P))
  have e4 := row_of P
  have e5 := pick_of (R ++ [rw' P])
  have e0 : (base ++ [(R0, P0), (R, P)]).map frD = base.map frD ++ [frD (R0, P0), frD (R, P)] := by simp
  have e9 : base.map frD ++ [frD (R0, P0)] ++ [frD (R, P)] = base.map frD ++ [frD (R0, P0), frD (R, P)] := by simp
  rw [e9] at e1
  rw [e0]
  have hlen : ¬ ((base.map frD ++ [frD (R0, P0), frD (R, P)]).length : Int) = 1 := by simp; omega
  have f1 : frD (R0, P0) = .tup [.lst (R0.map td), .lst (P0.map td)] := rfl
  have f2 : frD (R, P) = .tup [.lst (R.map td), .lst (P.map td)] := rfl
  have f3 : (base ++ [(R0, P0 ++ [pk' (R ++ [rw' P])])]).map frD = base.map frD ++ [.tup [.lst (R0.map td), .lst (P0.map td ++ [td (pk' (R ++ [rw' P]))])]] := by simp [frD]
  rw [f3]
  simp only [List.map_append, List.map_cons, List.map_nil] at e5
  generalize hX : base.map frD ++ [frD (R0, P0), frD (R, P)] = X at *
  simp [f_p_closed, run_eq, b_p_closed, hlen, e1, e2, e3, f1, f2, pos, e4, e5, show base.length ≤ 16777215 by omega, show P0.length ≤ 16777215 by omega, show R.length ≤ 16777215 by omega, -opIx_lst]
theorem opened_of (fs : List (List Tr × List Tr)) (h : fs.length ≤ 30) : f_p_opened [.lst (fs.map frD)] = .ok (.lst ((fs ++ [([], [])]).map frD)) := by
  simp [f_p_opened, run_eq, b_p_opened, show ¬ (30 : Int) < fs.length by omega, show fs.length ≤ 16777215 by omega, frD]
end Mt
end
section
namespace Mt
open Mini Bd
noncomputable abbrev LP (p : List Nat) (fs : List (List Tr × List Tr)) (r : Bool) (a : Int) (x4 x5 x6 x7 x8 x9 : Option D) : R (O × Sto) :=
  sWhile t_p_read_1 c_p_read_1 [some (.str p), some (.lst (fs.map frD)), some (.bl r), some (.int a), x4, x5, x6, x7, x8, x9] []
/-- the loop goes on from one state to another -/
def Go (p : List Nat) (fs : List (List Tr × List Tr)) (r : Bool) (a : Nat) (fs' : List (List Tr × List Tr)) (r' : Bool) (a' : Nat) : Prop :=
  ∀ x4 x5 x6 x7 x8 x9, ∃ y4 y5 y6 y7 y8 y9, LP p fs r a x4 x5 x6 x7 x8 x9 = LP p fs' r' a' y4 y5 y6 y7 y8 y9
theorem Go.trans {p : List Nat} {f1 f2 f3 : List (List Tr × List Tr)} {r1 r2 r3 : Bool} {a1 a2 a3 : Nat} (h : Go p f1 r1 a1 f2 r2 a2) (h2 : Go p f2 r2 a2 f3 r3 a3) : Go p f1 r1 a1 f3 r3 a3 := by
  intro x4 x5 x6 x7 x8 x9
  obtain ⟨y4, y5, y6, y7, y8, y9, e⟩ := h x4 x5 x6 x7 x8 x9
  obtain ⟨z4, z5, z6, z7, z8, z9, e2⟩ := h2 y4 y5 y6 y7 y8 y9
  exact ⟨z4, z5, z6, z7, z8, z9, e.trans e2⟩
theorem Go.refl (p : List Nat) (f : List (List Tr × List Tr)) (r : Bool) (a : Nat) : Go p f r a f r a := fun x4 x5 x6 x7 x8 x9 => ⟨x4, x5, x6, x7, x8, x9, rfl⟩
theorem test_t (p : List Nat) (F : D) (r : Bool) (a : Nat) (x4 x5 x6 x7 x8 x9 : Option D) (h : a < p.length) (hp : p.length ≤ 16777216) :
    t_p_read_1 [some (.str p), some F, some (.bl r), some (.int (a : Int)), x4, x5, x6, x7, x8, x9] [] = .ok (true, []) := by
  simp [t_p_read_1, hp, h]
theorem test_f (p : List Nat) (F : D) (r : Bool) (x4 x5 x6 x7 x8 x9 : Option D) (hp : p.length ≤ 16777216) :
    t_p_read_1 [some (.str p), some F, some (.bl r), some (.int (p.length : Int)), x4, x5, x6, x7, x8, x9] [] = .ok (false, []) := by
  simp [t_p_read_1, hp]
theorem go_of {p : List Nat} {fs fs' : List (List Tr × List Tr)} {r r' : Bool} {a a' : Nat} (ha : a < p.length) (hp : p.length ≤ 16777216)
    (h : ∀ x4 x5 x6 x7 x8 x9, ∃ y4 y5 y6 y7 y8 y9, c_p_read_1 [some (.str p), some (.lst (fs.map frD)), some (.bl r), some (.int (a : Int)), x4, x5, x6, x7, x8, x9] [] =
      .ok (.nx [some (.str p), some (.lst (fs'.map frD)), some (.bl r'), some (.int (a' : Int)), y4, y5, y6, y7, y8, y9], [])) : Go p fs r a fs' r' a' := by
  intro x4 x5 x6 x7 x8 x9
  obtain ⟨y4, y5, y6, y7, y8, y9, e⟩ := h x4 x5 x6 x7 x8 x9
  exact ⟨y4, y5, y6, y7, y8, y9, sWhile_true (test_t p _ r a x4 x5 x6 x7 x8 x9 ha hp) (.inl e)⟩
theorem fr_last (base : List (List Tr × List Tr)) (R P : List Tr) (s : Sto) : opIx s (.lst ((base ++ [(R, P)]).map frD)) (.int (-1)) = some (.tup [.lst (R.map td), .lst (P.map td)]) := by
  rw [List.map_append, List.map_cons, List.map_nil, ix_last]; rfl
theorem fr_cut (base : List (List Tr × List Tr)) (R P : List Tr) : cut ((base ++ [(R, P)]).map frD) none (some (-1)) = base.map frD := by
  rw [List.map_append, List.map_cons, List.map_nil, cut_last1]
theorem step_open (pre post : List Nat) (base : List (List Tr × List Tr)) (R P : List Tr) (r : Bool) (hp : (pre ++ 40 :: post).length ≤ 16777216) (hf : base.length ≤ 29) :
    Go (pre ++ 40 :: post) (base ++ [(R, P)]) r pre.length (base ++ [(R, P)] ++ [([], [])]) false (pre.length + 1) := by
  refine go_of (by simp) hp fun x4 x5 x6 x7 x8 x9 => ⟨some (.str [40]), some (.lst (R.map td)), some (.lst (P.map td)), x7, x8, x9, ?_⟩
  have e1 := ix_at [] pre 40 post hp
  have e2 := opened_of (base ++ [(R, P)]) (by simp; omega)
  have e3 := fr_last base R P []
  generalize (base ++ [(R, P)]).map frD = F at *
  generalize (base ++ [(R, P)] ++ [([], [])]).map frD = F2 at *
  generalize pre ++ 40 :: post = p at *
  simp [c_p_read_1, e1, e2, e3, pos, -opIx_lst]
theorem step_close (pre post : List Nat) (base : List (List Tr × List Tr)) (R0 P0 R P : List Tr) (r : Bool) (hp : (pre ++ 41 :: post).length ≤ 16777216) (h1 : base.length ≤ 1000) (h2 : P0.length ≤ 10000) (h3 : R.length ≤ 10000) :
    Go (pre ++ 41 :: post) (base ++ [(R0, P0)] ++ [(R, P)]) r pre.length (base ++ [(R0, P0 ++ [pk' (R ++ [rw' P])])]) true (pre.length + 1) := by
  refine go_of (by simp) hp fun x4 x5 x6 x7 x8 x9 => ⟨some (.str [41]), some (.lst (R.map td)), some (.lst (P.map td)), x7, x8, x9, ?_⟩
  have e1 := ix_at [] pre 41 post hp
  have e2 := closed_of base R0 P0 R P h1 h2 h3
  have e3 := fr_last (base ++ [(R0, P0)]) R P []
  have e4 : base ++ [(R0, P0)] ++ [(R, P)] = base ++ [(R0, P0), (R, P)] := by simp
  rw [e4] at e3 ⊢
  generalize (base ++ [(R0, P0), (R, P)]).map frD = F at *
  generalize (base ++ [(R0, P0 ++ [pk' (R ++ [rw' P])])]).map frD = F2 at *
  generalize pre ++ 41 :: post = p at *
  simp [c_p_read_1, e1, e2, e3, pos, -opIx_lst]
theorem step_bar (pre post : List Nat) (base : List (List Tr × List Tr)) (R P : List Tr) (r : Bool) (hp : (pre ++ 124 :: post).length ≤ 16777216) (h1 : base.length ≤ 1000) (h3 : R.length ≤ 10000) :
    Go (pre ++ 124 :: post) (base ++ [(R, P)]) r pre.length (base ++ [(R ++ [rw' P], [])]) false (pre.length + 1) := by
  refine go_of (by simp) hp fun x4 x5 x6 x7 x8 x9 => ⟨some (.str [124]), some (.lst (R.map td)), some (.lst (P.map td)), x7, x8, x9, ?_⟩
  have e1 := ix_at [] pre 124 post hp
  have e2 := row_of P
  have e3 := fr_last base R P []
  have e4 := fr_cut base R P
  have e5 : (base ++ [(R ++ [rw' P], [])]).map frD = base.map frD ++ [.tup [.lst (R.map td ++ [td (rw' P)]), .lst []]] := by simp [frD]
  rw [e5]
  generalize (base ++ [(R, P)]).map frD = F at *
  generalize pre ++ 124 :: post = p at *
  simp [c_p_read_1, e1, e2, e3, e4, pos, show base.length ≤ 16777215 by omega, show R.length ≤ 16777215 by omega, -opIx_lst]
theorem step_maybe (pre post : List Nat) (base : List (List Tr × List Tr)) (R P : List Tr) (t : Tr) (hp : (pre ++ 63 :: post).length ≤ 16777216) (h1 : base.length ≤ 1000) (h3 : P.length ≤ 10000) (hn : post.take 1 ≠ [33]) :
    Go (pre ++ 63 :: post) (base ++ [(R, P ++ [t])]) true pre.length (base ++ [(R, P ++ [Tr.maybe t true])]) false (pre.length + 1) := by
  refine go_of (by simp) hp fun x4 x5 x6 x7 x8 x9 => ⟨some (.str [63]), some (.lst (R.map td)), some (.lst ((P ++ [t]).map td)), some (.bl true), some (td (.maybe t true)), x9, ?_⟩
  have e1 := ix_at [] pre 63 post hp
  have e3 := fr_last base R (P ++ [t]) []
  have e4 := fr_cut base R (P ++ [t])
  have e5 : (base ++ [(R, P ++ [Tr.maybe t true])]).map frD = base.map frD ++ [.tup [.lst (R.map td), .lst (P.map td ++ [td (.maybe t true)])]] := by simp [frD]
  have e6 : f_p_repeated [.str [63], .bl true, .lst ((P ++ [t]).map td), .bl true] = .ok (td (.maybe t true)) := by
    have := ix_last [] (P.map td) (td t)
    simp [f_p_repeated, run_eq, b_p_repeated, this, td_maybe, frz_td, -opIx_lst]
  have e7 : cut ((P ++ [t]).map td) none (some (-1)) = P.map td := by rw [List.map_append, List.map_cons, List.map_nil, cut_last1]
  have e8 := cut_at (pre ++ [63]) post 1
  have e9 : ((pre ++ [63]).length : Int) = (pre.length : Int) + 1 := by simp
  rw [e9, show pre ++ [63] ++ post = pre ++ 63 :: post by simp, show (pre.length : Int) + 1 + ((1 : Nat) : Int) = (pre.length : Int) + 2 by omega] at e8
  rw [e5]
  generalize (base ++ [(R, P ++ [t])]).map frD = F at *
  generalize (P ++ [t]).map td = G at *
  generalize pre ++ 63 :: post = p at *
  generalize post.take 1 = q at *
  simp [c_p_read_1, e1, e3, e4, e6, e7, e8, hn, hp, pos, show base.length ≤ 16777215 by omega, show P.length ≤ 16777215 by omega, -opIx_lst]
theorem step_maybe' (pre post : List Nat) (base : List (List Tr × List Tr)) (R P : List Tr) (t : Tr) (hp : (pre ++ 63 :: 33 :: post).length ≤ 16777216) (h1 : base.length ≤ 1000) (h3 : P.length ≤ 10000) :
    Go (pre ++ 63 :: 33 :: post) (base ++ [(R, P ++ [t])]) true pre.length (base ++ [(R, P ++ [Tr.maybe t false])]) false (pre.length + 2) := by
  refine go_of (by simp) hp fun x4 x5 x6 x7 x8 x9 => ⟨some (.str [63]), some (.lst (R.map td)), some (.lst ((P ++ [t]).map td)), some (.bl false), some (td (.maybe t false)), x9, ?_⟩
  have e1 := ix_at [] pre 63 (33 :: post) hp
  have e3 := fr_last base R (P ++ [t]) []
  have e4 := fr_cut base R (P ++ [t])
  have e5 : (base ++ [(R, P ++ [Tr.maybe t false])]).map frD = base.map frD ++ [.tup [.lst (R.map td), .lst (P.map td ++ [td (.maybe t false)])]] := by simp [frD]
  have e6 : f_p_repeated [.str [63], .bl true, .lst ((P ++ [t]).map td), .bl false] = .ok (td (.maybe t false)) := by
    have := ix_last [] (P.map td) (td t)
    simp [f_p_repeated, run_eq, b_p_repeated, this, td_maybe, frz_td, -opIx_lst]
  have e7 : cut ((P ++ [t]).map td) none (some (-1)) = P.map td := by rw [List.map_append, List.map_cons, List.map_nil, cut_last1]
  have e8 := cut_at (pre ++ [63]) (33 :: post) 1
  have e9 : ((pre ++ [63]).length : Int) = (pre.length : Int) + 1 := by simp
  rw [e9, show pre ++ [63] ++ 33 :: post = pre ++ 63 :: 33 :: post by simp, show (pre.length : Int) + 1 + ((1 : Nat) : Int) = (pre.length : Int) + 2 by omega] at e8
  have ea : (pre.length : Int) + 1 + 1 = ((pre.length + 2 : Nat) : Int) := by omega
  rw [e5]
  generalize (base ++ [(R, P ++ [t])]).map frD = F at *
  generalize (P ++ [t]).map td = G at *
  generalize pre ++ 63 :: 33 :: post = p at *
  simp [c_p_read_1, e1, e3, e4, e6, e7, e8, hp, pos, show base.length ≤ 16777215 by omega, show P.length ≤ 16777215 by omega, -opIx_lst]
  omega
theorem step_many (pre post : List Nat) (base : List (List Tr × List Tr)) (R P : List Tr) (t : Tr) (hp : (pre ++ 42 :: post).length ≤ 16777216) (h1 : base.length ≤ 1000) (h3 : P.length ≤ 10000) (hn : post.take 1 ≠ [33]) (hb : f_p_bare 200 [td t] = .ok (.bl false)) :
    Go (pre ++ 42 :: post) (base ++ [(R, P ++ [t])]) true pre.length (base ++ [(R, P ++ [Tr.many t true])]) false (pre.length + 1) := by
  refine go_of (by simp) hp fun x4 x5 x6 x7 x8 x9 => ⟨some (.str [42]), some (.lst (R.map td)), some (.lst ((P ++ [t]).map td)), some (.bl true), some (td (.many t true)), x9, ?_⟩
  have e1 := ix_at [] pre 42 post hp
  have e3 := fr_last base R (P ++ [t]) []
  have e4 := fr_cut base R (P ++ [t])
  have e5 : (base ++ [(R, P ++ [Tr.many t true])]).map frD = base.map frD ++ [.tup [.lst (R.map td), .lst (P.map td ++ [td (.many t true)])]] := by simp [frD]
  have e6 : f_p_repeated [.str [42], .bl true, .lst ((P ++ [t]).map td), .bl true] = .ok (td (.many t true)) := by
    have := ix_last [] (P.map td) (td t)
    simp [f_p_repeated, run_eq, b_p_repeated, this, td_many, frz_td, hb, -opIx_lst]
  have e7 : cut ((P ++ [t]).map td) none (some (-1)) = P.map td := by rw [List.map_append, List.map_cons, List.map_nil, cut_last1]
  have e8 := cut_at (pre ++ [42]) post 1
  have e9 : ((pre ++ [42]).length : Int) = (pre.length : Int) + 1 := by simp
  rw [e9, show pre ++ [42] ++ post = pre ++ 42 :: post by simp, show (pre.length : Int) + 1 + ((1 : Nat) : Int) = (pre.length : Int) + 2 by omega] at e8
  rw [e5]
  generalize (base ++ [(R, P ++ [t])]).map frD = F at *
  generalize (P ++ [t]).map td = G at *
  generalize pre ++ 42 :: post = p at *
  generalize post.take 1 = q at *
  simp [c_p_read_1, e1, e3, e4, e6, e7, e8, hn, hp, pos, show base.length ≤ 16777215 by omega, show P.length ≤ 16777215 by omega, -opIx_lst]
theorem step_many' (pre post : List Nat) (base : List (List Tr × List Tr)) (R P : List Tr) (t : Tr) (hp : (pre ++ 42 :: 33 :: post).length ≤ 16777216) (h1 : base.length ≤ 1000) (h3 : P.length ≤ 10000) (hb : f_p_bare 200 [td t] = .ok (.bl false)) :
    Go (pre ++ 42 :: 33 :: post) (base ++ [(R, P ++ [t])]) true pre.length (base ++ [(R, P ++ [Tr.many t false])]) false (pre.length + 2) := by
  refine go_of (by simp) hp fun x4 x5 x6 x7 x8 x9 => ⟨some (.str [42]), some (.lst (R.map td)), some (.lst ((P ++ [t]).map td)), some (.bl false), some (td (.many t false)), x9, ?_⟩
  have e1 := ix_at [] pre 42 (33 :: post) hp
  have e3 := fr_last base R (P ++ [t]) []
  have e4 := fr_cut base R (P ++ [t])
  have e5 : (base ++ [(R, P ++ [Tr.many t false])]).map frD = base.map frD ++ [.tup [.lst (R.map td), .lst (P.map td ++ [td (.many t false)])]] := by simp [frD]
  have e6 : f_p_repeated [.str [42], .bl true, .lst ((P ++ [t]).map td), .bl false] = .ok (td (.many t false)) := by
    have := ix_last [] (P.map td) (td t)
    simp [f_p_repeated, run_eq, b_p_repeated, this, td_many, frz_td, hb, -opIx_lst]
  have e7 : cut ((P ++ [t]).map td) none (some (-1)) = P.map td := by rw [List.map_append, List.map_cons, List.map_nil, cut_last1]
  have e8 := cut_at (pre ++ [42]) (33 :: post) 1
  have e9 : ((pre ++ [42]).length : Int) = (pre.length : Int) + 1 := by simp
  rw [e9, show pre ++ [42] ++ 33 :: post = pre ++ 42 :: 33 :: post by simp, show (pre.length : Int) + 1 + ((1 : Nat) : Int) = (pre.length : Int) + 2 by omega] at e8
  rw [e5]
  generalize (base ++ [(R, P ++ [t])]).map frD = F at *
  generalize (P ++ [t]).map td = G at *
  generalize pre ++ 42 :: 33 :: post = p at *
  simp [c_p_read_1, e1, e3, e4, e6, e7, e8, hp, pos, show base.length ≤ 16777215 by omega, show P.length ≤ 16777215 by omega, -opIx_lst]
  omega
theorem step_piece (pre post : List Nat) (c : Nat) (base : List (List Tr × List Tr)) (R P : List Tr) (r : Bool) (t : Tr) (n : Nat) (hp : (pre ++ c :: post).length ≤ 16777216) (h1 : base.length ≤ 1000) (h3 : P.length ≤ 10000)
    (hc : c ≠ 40 ∧ c ≠ 41 ∧ c ≠ 124 ∧ c ≠ 42 ∧ c ≠ 63) (he : f_p_piece_at [.str (pre ++ c :: post), .int (pre.length : Int)] = .ok (.tup [td t, .int ((pre.length : Int) + (n : Int))])) :
    Go (pre ++ c :: post) (base ++ [(R, P)]) r pre.length (base ++ [(R, P ++ [t])]) true (pre.length + n) := by
  refine go_of (by simp) hp fun x4 x5 x6 x7 x8 x9 => ⟨some (.str [c]), some (.lst (R.map td)), some (.lst (P.map td)), x7, x8, some (.tup [td t, .int ((pre.length : Int) + (n : Int))]), ?_⟩
  obtain ⟨c1, c2, c3, c4, c5⟩ := hc
  have e1 := ix_at [] pre c post hp
  have e3 := fr_last base R P []
  have e4 := fr_cut base R P
  have e5 : (base ++ [(R, P ++ [t])]).map frD = base.map frD ++ [.tup [.lst (R.map td), .lst (P.map td ++ [td t])]] := by simp [frD]
  rw [e5]
  generalize (base ++ [(R, P)]).map frD = F at *
  generalize pre ++ c :: post = p at *
  simp [c_p_read_1, e1, e3, e4, he, c1, c2, c3, c4, c5, pos, show base.length ≤ 16777215 by omega, show P.length ≤ 16777215 by omega, -opIx_lst]
end Mt
end
section
namespace Mt
open Mini Bd
theorem len_snoc (pre : List Nat) (c : Nat) : ((pre ++ [c]).length : Int) = (pre.length : Int) + 1 := by simp
theorem cut_one (pre post : List Nat) (c : Nat) : cut (pre ++ c :: post) (some (pre.length : Int)) (some ((pre.length : Int) + 1)) = [c] := cut_at pre (c :: post) 1
theorem read_of {p : List Nat} {R P : List Tr} {r : Bool} (hp : p.length ≤ 16777216) (h : Go p [([], [])] false 0 [(R, P)] r p.length) (hR : R.length ≤ 10000) : f_p_read [.str p] = .ok (td (pk' (R ++ [rw' P]))) := by
  obtain ⟨y4, y5, y6, y7, y8, y9, e⟩ := h none none none none none none
  have e2 : LP p [(R, P)] r (p.length : Int) y4 y5 y6 y7 y8 y9 = _ := sWhile_false (test_f p (.lst ([(R, P)].map frD)) r y4 y5 y6 y7 y8 y9 hp)
  rw [e2] at e
  have e4 := row_of P
  have e5 := pick_of (R ++ [rw' P])
  simp only [LP, List.map_cons, List.map_nil, frD] at e
  simp only [List.map_append, List.map_cons, List.map_nil] at e5
  have e : sWhile t_p_read_1 c_p_read_1 [some (.str p), some (.lst [.tup [.lst [], .lst []]]), some (.bl false), some (.int 0), none, none, none, none, none, none] [] = _ := e
  simp [f_p_read, run_eq, b_p_read, b_p_read_1, b_p_read_2, b_p_read_3, e, b_p_read_4, b_p_read_5, pos, e4, e5, frz_td, show R.length ≤ 16777215 by omega]
theorem rw_row {ps : List Tr} (h : ps.length ≠ 1) : rw' ps = .row ps := by
  match ps, h with
  | [], _ => rfl
  | [t], h => exact absurd rfl h
  | _ :: _ :: _, _ => rfl
theorem pk_pick {ps : List Tr} (h : 2 ≤ ps.length) : pk' ps = .pick ps := by
  match ps, h with
  | [], h => simp at h
  | [t], h => simp at h
  | _ :: _ :: _, _ => rfl
end Mt
end
section
namespace Mt
open Mini Bd
/-! exceptions go on -/
@[simp] theorem kSet_exc {i : Nat} {e : Env} {c : Nat} : kSet i e (.exc c) = .exc c := (rfl : _ = _).trans rfl
@[simp] theorem kRet_exc {c : Nat} : kRet (.exc c) = .exc c := (rfl : _ = _).trans rfl
@[simp] theorem kEx_exc {e : Env} {c : Nat} : kEx e (.exc c) = .exc c := (rfl : _ = _).trans rfl
@[simp] theorem kTT_exc {c : Nat} : kTT (.exc c) = .exc c := (rfl : _ = _).trans rfl
@[simp] theorem kB_exc {f : D → Option D} {c : Nat} : kB f (.exc c) = .exc c := (rfl : _ = _).trans rfl
@[simp] theorem kIf_exc {β : Type} {a b : Env → Sto → R (β × Sto)} {e : Env} {c : Nat} : kIf a b e (.exc c) = .exc c := (rfl : _ = _).trans rfl
theorem opened_deep (fs : List (List Tr × List Tr)) (h : 30 < fs.length) : f_p_opened [.lst (fs.map frD)] = .exc 4 := by
  simp [f_p_opened, run_eq, b_p_opened, show (30 : Int) < fs.length by omega]
theorem closed_one (f : List Tr × List Tr) : f_p_closed [.lst ([f].map frD)] = .exc 1 := by
  simp [f_p_closed, run_eq, b_p_closed, frD, pos]
theorem repeated_no (c : Nat) (P : List D) (g : Bool) : f_p_repeated [.str [c], .bl false, .lst P, .bl g] = .exc 2 := by
  simp [f_p_repeated, run_eq, b_p_repeated]
theorem repeated_bare (P : List Tr) (t : Tr) (g : Bool) (hb : f_p_bare 200 [td t] = .ok (.bl true)) : f_p_repeated [.str [42], .bl true, .lst ((P ++ [t]).map td), .bl g] = .exc 3 := by
  have := ix_last [] (P.map td) (td t)
  simp [f_p_repeated, run_eq, b_p_repeated, this, frz_td, hb, -opIx_lst]
/-- the loop ends with an exception -/
def Ex (p : List Nat) (fs : List (List Tr × List Tr)) (r : Bool) (a : Nat) (c : Nat) : Prop := ∀ x4 x5 x6 x7 x8 x9, LP p fs r a x4 x5 x6 x7 x8 x9 = .exc c
theorem ex_of {p : List Nat} {fs : List (List Tr × List Tr)} {r : Bool} {a c : Nat} (ha : a < p.length) (hp : p.length ≤ 16777216)
    (h : ∀ x4 x5 x6 x7 x8 x9, c_p_read_1 [some (.str p), some (.lst (fs.map frD)), some (.bl r), some (.int (a : Int)), x4, x5, x6, x7, x8, x9] [] = .exc c) : Ex p fs r a c :=
  fun x4 x5 x6 x7 x8 x9 => sWhile_exc (test_t p _ r a x4 x5 x6 x7 x8 x9 ha hp) (h x4 x5 x6 x7 x8 x9)
theorem Go.ex {p : List Nat} {f1 f2 : List (List Tr × List Tr)} {r1 r2 : Bool} {a1 a2 c : Nat} (h : Go p f1 r1 a1 f2 r2 a2) (h2 : Ex p f2 r2 a2 c) : Ex p f1 r1 a1 c := by
  intro x4 x5 x6 x7 x8 x9
  obtain ⟨y4, y5, y6, y7, y8, y9, e⟩ := h x4 x5 x6 x7 x8 x9
  exact e.trans (h2 y4 y5 y6 y7 y8 y9)
theorem ex_open (pre post : List Nat) (base : List (List Tr × List Tr)) (R P : List Tr) (r : Bool) (hp : (pre ++ 40 :: post).length ≤ 16777216) (hf : 30 ≤ base.length) : Ex (pre ++ 40 :: post) (base ++ [(R, P)]) r pre.length 4 := by
  refine ex_of (by simp) hp fun x4 x5 x6 x7 x8 x9 => ?_
  have e1 := ix_at [] pre 40 post hp
  have e2 := opened_deep (base ++ [(R, P)]) (by simp; omega)
  have e3 := fr_last base R P []
  generalize (base ++ [(R, P)]).map frD = F at *
  generalize pre ++ 40 :: post = p at *
  simp [c_p_read_1, e1, e2, e3, pos, -opIx_lst]
theorem ex_close (pre post : List Nat) (R P : List Tr) (r : Bool) (hp : (pre ++ 41 :: post).length ≤ 16777216) : Ex (pre ++ 41 :: post) [(R, P)] r pre.length 1 := by
  refine ex_of (by simp) hp fun x4 x5 x6 x7 x8 x9 => ?_
  have e1 := ix_at [] pre 41 post hp
  have e2 := closed_one (R, P)
  have e3 := fr_last [] R P []
  rw [List.nil_append] at e3
  generalize [(R, P)].map frD = F at *
  generalize pre ++ 41 :: post = p at *
  simp [c_p_read_1, e1, e2, e3, pos, -opIx_lst]
theorem ex_repeat (pre post : List Nat) (c : Nat) (base : List (List Tr × List Tr)) (R P : List Tr) (hc : c = 42 ∨ c = 63) (hp : (pre ++ c :: post).length ≤ 16777216) : Ex (pre ++ c :: post) (base ++ [(R, P)]) false pre.length 2 := by
  refine ex_of (by simp) hp fun x4 x5 x6 x7 x8 x9 => ?_
  have e1 := ix_at [] pre c post hp
  have e3 := fr_last base R P []
  have e8 := cut_at (pre ++ [c]) post 1
  have e9 : ((pre ++ [c]).length : Int) = (pre.length : Int) + 1 := by simp
  rw [e9, show pre ++ [c] ++ post = pre ++ c :: post by simp, show (pre.length : Int) + 1 + ((1 : Nat) : Int) = (pre.length : Int) + 2 by omega] at e8
  have e6 := fun g => repeated_no c (P.map td) g
  generalize (base ++ [(R, P)]).map frD = F at *
  generalize pre ++ c :: post = p at *
  generalize post.take 1 = q at *
  rcases hc with rfl | rfl <;> simp [c_p_read_1, e1, e3, e6, e8, hp, pos, -opIx_lst]
theorem ex_bare (pre post : List Nat) (base : List (List Tr × List Tr)) (R P : List Tr) (t : Tr) (hp : (pre ++ 42 :: post).length ≤ 16777216) (hb : f_p_bare 200 [td t] = .ok (.bl true)) : Ex (pre ++ 42 :: post) (base ++ [(R, P ++ [t])]) true pre.length 3 := by
  refine ex_of (by simp) hp fun x4 x5 x6 x7 x8 x9 => ?_
  have e1 := ix_at [] pre 42 post hp
  have e3 := fr_last base R (P ++ [t]) []
  have e8 := cut_at (pre ++ [42]) post 1
  have e9 : ((pre ++ [42]).length : Int) = (pre.length : Int) + 1 := by simp
  rw [e9, show pre ++ [42] ++ post = pre ++ 42 :: post by simp, show (pre.length : Int) + 1 + ((1 : Nat) : Int) = (pre.length : Int) + 2 by omega] at e8
  have e6 := fun g => repeated_bare P t g hb
  generalize (base ++ [(R, P ++ [t])]).map frD = F at *
  generalize (P ++ [t]).map td = G at *
  generalize pre ++ 42 :: post = p at *
  generalize post.take 1 = q at *
  simp [c_p_read_1, e1, e3, e6, e8, hp, pos, -opIx_lst]
theorem ex_piece (pre post : List Nat) (c x : Nat) (base : List (List Tr × List Tr)) (R P : List Tr) (r : Bool) (hp : (pre ++ c :: post).length ≤ 16777216)
    (hc : c ≠ 40 ∧ c ≠ 41 ∧ c ≠ 124 ∧ c ≠ 42 ∧ c ≠ 63) (he : f_p_piece_at [.str (pre ++ c :: post), .int (pre.length : Int)] = .exc x) : Ex (pre ++ c :: post) (base ++ [(R, P)]) r pre.length x := by
  refine ex_of (by simp) hp fun x4 x5 x6 x7 x8 x9 => ?_
  obtain ⟨c1, c2, c3, c4, c5⟩ := hc
  have e1 := ix_at [] pre c post hp
  have e3 := fr_last base R P []
  generalize (base ++ [(R, P)]).map frD = F at *
  generalize pre ++ c :: post = p at *
  simp [c_p_read_1, e1, e3, he, c1, c2, c3, c4, c5, pos, -opIx_lst]
/-- the ends -/
theorem read_ex {p : List Nat} {c : Nat} (h : Ex p [([], [])] false 0 c) : f_p_read [.str p] = .exc c := by
  have e := h none none none none none none
  have e : sWhile t_p_read_1 c_p_read_1 [some (.str p), some (.lst [.tup [.lst [], .lst []]]), some (.bl false), some (.int 0), none, none, none, none, none, none] [] = .exc c := e
  simp [f_p_read, run_eq, b_p_read, b_p_read_1, b_p_read_2, b_p_read_3, e]
theorem read_open {p : List Nat} {fs : List (List Tr × List Tr)} {r : Bool} (hp : p.length ≤ 16777216) (h : Go p [([], [])] false 0 fs r p.length) (hf : 1 < fs.length) : f_p_read [.str p] = .exc 0 := by
  obtain ⟨y4, y5, y6, y7, y8, y9, e⟩ := h none none none none none none
  have e2 : LP p fs r (p.length : Int) y4 y5 y6 y7 y8 y9 = _ := sWhile_false (test_f p (.lst (fs.map frD)) r y4 y5 y6 y7 y8 y9 hp)
  rw [e2] at e
  have e : sWhile t_p_read_1 c_p_read_1 [some (.str p), some (.lst [.tup [.lst [], .lst []]]), some (.bl false), some (.int 0), none, none, none, none, none, none] [] = _ := e
  simp [f_p_read, run_eq, b_p_read, b_p_read_1, b_p_read_2, b_p_read_3, e, b_p_read_4, show (1 : Int) < fs.length by omega]
end Mt
end
section
namespace Mt
open Mini Bd
/-! a set, from any text -/
/-- the signs of a set, and how much it takes with its end -/
def scan : List Nat → Option (List Nat × Nat)
  | [] => none
  | c :: r => if c = 93 then some ([], 1) else if c = 126 then (match r with | [] => none | d :: r => (scan r).map fun p => (d :: p.1, p.2 + 2)) else (scan r).map fun p => (c :: p.1, p.2 + 1)
theorem scan_cons (c : Nat) (r : List Nat) : scan (c :: r) = if c = 93 then some ([], 1) else if c = 126 then (match r with | [] => none | d :: r => (scan r).map fun p => (d :: p.1, p.2 + 2)) else (scan r).map fun p => (c :: p.1, p.2 + 1) := by rw [scan.eq_def]
theorem scan_len : ∀ (n : Nat) (z : List Nat) {p : List Nat × Nat}, z.length ≤ n → scan z = some p → p.1.length + 1 ≤ p.2 ∧ p.2 ≤ z.length ∧ 1 ≤ p.2 ∧ ∀ c ∈ p.1, c ∈ z
  | n, [], p, _, h => by simp [scan] at h
  | 0, c :: r, p, hl, h => by simp at hl
  | n + 1, c :: r, p, hl, h => by
    rw [scan_cons] at h
    split at h
    · cases h; simp
    · split at h
      · cases r with
        | nil => cases h
        | cons d r =>
          simp only at h
          obtain ⟨q, hq, rfl⟩ := Option.map_eq_some_iff.mp h
          have ih := scan_len n r (by simp at hl; omega) hq
          simp only [List.length_cons]
          refine ⟨by omega, by omega, by omega, fun x hx => ?_⟩
          rcases List.mem_cons.mp hx with rfl | hx
          · simp
          · have := ih.2.2.2 x hx; simp [this]
      · obtain ⟨q, hq, rfl⟩ := Option.map_eq_some_iff.mp h
        have ih := scan_len n r (by simp at hl; omega) hq
        simp only [List.length_cons]
        refine ⟨by omega, by omega, by omega, fun x hx => ?_⟩
        rcases List.mem_cons.mp hx with rfl | hx
        · simp
        · have := ih.2.2.2 x hx; simp [this]
theorem cut_end (pre : List Nat) : cut pre (some (pre.length : Int)) (some ((pre.length : Int) + 1)) = [] := by
  have := cut_at pre [] 1
  simpa using this
/-- reading's own loop -/
theorem set_scan : ∀ (n : Nat) (z pre s : List Nat) (i : Option D) (p : List Nat), z.length ≤ n → p = pre ++ z → p.length ≤ 16777216 → s.length + z.length ≤ 16777216 →
    sWhile t_p_set_at_1 c_p_set_at_1 [some (.str p), some (.int (pre.length : Int)), i, some (.str s)] [] =
      match scan z with
      | none => .exc 0
      | some q => .ok (.nx [some (.str p), some (.int ((pre.length : Int) + (q.2 : Int) - 1)), i, some (.str (s ++ q.1))], [])
  | n, [], pre, s, i, p, hn, hp, hl, hs => by
    rw [List.append_nil] at hp
    subst hp
    have e := cut_end p
    rw [sWhile_exc (s' := []) (c := 0) (by simp [t_p_set_at_1, hl, e]) (by simp [c_p_set_at_1, hl, e])]
    rfl
  | 0, c :: z, pre, s, i, p, hn, hp, hl, hs => by simp at hn
  | n + 1, c :: z, pre, s, i, p, hn, hp, hl, hs => by
    have e := cut_one pre z c
    rw [← hp] at e
    rw [List.length_cons] at hs hn
    have hpl : p.length = pre.length + z.length + 1 := by rw [hp]; simp; omega
    rw [scan_cons]
    by_cases h93 : c = 93
    · subst h93
      rw [sWhile_false (s' := []) (by simp [t_p_set_at_1, hl, e])]
      simp
    · rw [if_neg h93]
      by_cases h126 : c = 126
      · subst h126
        rw [if_pos rfl]
        cases z with
        | nil =>
          simp only
          have hge : (p.length : Int) ≤ (pre.length : Int) + 1 := by simp at hpl; omega
          rw [sWhile_exc (s' := []) (c := 0) (by simp [t_p_set_at_1, hl, e]) (by simp [c_p_set_at_1, hl, e, hge])]
        | cons d z =>
          simp only [List.length_cons] at hpl hs hn ⊢
          have ih := set_scan n z (pre ++ [126, d]) (s ++ [d]) i p (by omega) (by rw [hp]; simp) hl (by simp; omega)
          have e2 := ix_at [] (pre ++ [126]) d z (by rw [show pre ++ [126] ++ d :: z = p by rw [hp]; simp]; exact hl)
          rw [show pre ++ [126] ++ d :: z = p by rw [hp]; simp, len_snoc] at e2
          have hlt : ¬ ((p.length : Int) ≤ (pre.length : Int) + 1) := by omega
          rw [sWhile_true (s' := []) (e' := [some (.str p), some (.int ((pre ++ [126, d]).length : Int)), i, some (.str (s ++ [d]))]) (s2 := []) (by simp [t_p_set_at_1, hl, e]) (.inl ?_), ih]
          · cases scan z with
            | none => rfl
            | some q => simp; omega
          · simp [c_p_set_at_1, hl, e, e2, hlt, show s.length + 1 ≤ 16777216 by omega]
            omega
      · rw [if_neg h126]
        have ih := set_scan n z (pre ++ [c]) (s ++ [c]) i p (by omega) (by rw [hp]; simp) hl (by simp; omega)
        have e2 := ix_at [] pre c z (by rw [← hp]; exact hl)
        rw [← hp] at e2
        have hlt : ¬ ((p.length : Int) ≤ (pre.length : Int)) := by omega
        rw [sWhile_true (s' := []) (e' := [some (.str p), some (.int ((pre ++ [c]).length : Int)), i, some (.str (s ++ [c]))]) (s2 := []) (by simp [t_p_set_at_1, hl, e, h93]) (.inl ?_), ih]
        · cases scan z with
          | none => rfl
          | some q => simp; omega
        · simp [c_p_set_at_1, hl, e, e2, hlt, h126, show s.length + 1 ≤ 16777216 by omega]
/-- the take of a set, how much it takes -/
def setT (z : List Nat) : Option (Tr × Nat) := match z with
  | [] => none
  | c :: r => if c = 33 then (scan r).map fun q => (.take false q.1, q.2 + 1) else (scan (c :: r)).map fun q => (.take true q.1, q.2)
theorem set_at_all (z pre p : List Nat) (hp : p = pre ++ z) (hl : p.length ≤ 16777216) (hz : z.length ≤ 10000) :
    f_p_set_at [.str p, .int (pre.length : Int)] = match setT z with | none => .exc 0 | some q => .ok (.tup [td q.1, .int ((pre.length : Int) + (q.2 : Int))]) := by
  cases z with
  | nil =>
    rw [List.append_nil] at hp
    subst hp
    have e := cut_end p
    have hs := set_scan 0 [] p [] (some (.bl true)) p (by simp) (by simp) hl (by simp)
    simp only [scan] at hs
    simp [f_p_set_at, run_eq, b_p_set_at, hl, e, hs, setT]
  | cons c r =>
    have e := cut_one pre r c
    rw [← hp] at e
    unfold setT
    by_cases h : c = 33
    · subst h
      simp only [if_pos]
      have hs := set_scan (r.length) r (pre ++ [33]) [] (some (.bl false)) p (Nat.le_refl _) (by rw [hp]; simp) hl (by simp at hz ⊢; omega)
      rw [len_snoc] at hs
      cases hq : scan r with
      | none =>
        rw [hq] at hs
        simp only at hs
        simp [f_p_set_at, run_eq, b_p_set_at, hl, e, hs]
      | some q =>
        rw [hq] at hs
        simp only [List.nil_append] at hs
        simp [f_p_set_at, run_eq, b_p_set_at, hl, e, hs, td_take]
        omega
    · simp only [if_neg h]
      have hs := set_scan (r.length + 1) (c :: r) pre [] (some (.bl true)) p (by simp) hp hl (by simp at hz ⊢; omega)
      cases hq : scan (c :: r) with
      | none =>
        rw [hq] at hs
        simp only at hs
        simp [f_p_set_at, run_eq, b_p_set_at, hl, e, h, hs]
      | some q =>
        rw [hq] at hs
        simp only [List.nil_append] at hs
        simp [f_p_set_at, run_eq, b_p_set_at, hl, e, h, hs, td_take]
/-- a piece that is no group, from its sign on: how it is refused, or its take and how much it takes -/
def pieceT (c : Nat) (z : List Nat) : Nat ⊕ (Tr × Nat) :=
  if c = 93 then .inl 1 else if c = 91 then (match setT z with | none => .inl 0 | some q => .inr (q.1, q.2 + 1)) else if c = 46 then .inr (.take false [], 1)
  else if c = 126 then (match z with | [] => .inl 0 | d :: _ => .inr (.take true [d], 2)) else .inr (.take true [c], 1)
theorem piece_all (c : Nat) (z pre p : List Nat) (hp : p = pre ++ c :: z) (hl : p.length ≤ 10000) :
    f_p_piece_at [.str p, .int (pre.length : Int)] = match pieceT c z with | .inl x => .exc x | .inr q => .ok (.tup [td q.1, .int ((pre.length : Int) + (q.2 : Int))]) := by
  have hl' : p.length ≤ 16777216 := by omega
  have e := ix_at [] pre c z (by rw [← hp]; exact hl')
  rw [← hp] at e
  have hpl : p.length = pre.length + z.length + 1 := by rw [hp]; simp; omega
  unfold pieceT
  by_cases h93 : c = 93
  · subst h93
    simp [f_p_piece_at, run_eq, b_p_piece_at, e, b_p_piece_at_1]
  · simp only [if_neg h93]
    by_cases h91 : c = 91
    · subst h91
      simp only [if_pos]
      have hs := set_at_all z (pre ++ [91]) p (by rw [hp]; simp) hl' (by omega)
      rw [len_snoc] at hs
      cases hq : setT z with
      | none =>
        rw [hq] at hs
        simp only at hs
        simp [f_p_piece_at, run_eq, b_p_piece_at, e, b_p_piece_at_1, b_p_piece_at_2, hs]
      | some q =>
        rw [hq] at hs
        simp only at hs
        simp [f_p_piece_at, run_eq, b_p_piece_at, e, b_p_piece_at_1, b_p_piece_at_2, hs, frz_td]
        omega
    · simp only [if_neg h91]
      by_cases h46 : c = 46
      · subst h46
        simp [f_p_piece_at, run_eq, b_p_piece_at, e, b_p_piece_at_1, b_p_piece_at_2, b_p_piece_at_3, td_take]
      · simp only [if_neg h46]
        by_cases h126 : c = 126
        · subst h126
          simp only [if_pos]
          cases z with
          | nil =>
            have hge : (p.length : Int) ≤ (pre.length : Int) + 1 := by simp at hpl; omega
            simp [f_p_piece_at, run_eq, b_p_piece_at, e, b_p_piece_at_1, b_p_piece_at_2, b_p_piece_at_3, b_p_piece_at_4, hl', hge]
          | cons d z =>
            have e2 := ix_at [] (pre ++ [126]) d z (by rw [show pre ++ [126] ++ d :: z = p by rw [hp]; simp]; exact hl')
            rw [show pre ++ [126] ++ d :: z = p by rw [hp]; simp, len_snoc] at e2
            have hlt : ¬ ((p.length : Int) ≤ (pre.length : Int) + 1) := by simp at hpl; omega
            simp [f_p_piece_at, run_eq, b_p_piece_at, e, e2, b_p_piece_at_1, b_p_piece_at_2, b_p_piece_at_3, b_p_piece_at_4, hl', hlt, td_take]
        · simp only [if_neg h126]
          simp [f_p_piece_at, run_eq, b_p_piece_at, e, b_p_piece_at_1, b_p_piece_at_2, b_p_piece_at_3, b_p_piece_at_4, b_p_piece_at_5, h93, h91, h46, h126, td_take]
end Mt
end
section
namespace Mt
open Mini Bd
/-! the law's own reckoning -/
def dfr (f : Bool × Bool × Bool) : D := .tup [.bl f.1, .bl f.2.1, .bl f.2.2]
def nmE : Nat → List Nat
  | 0 => [117, 110, 99, 108, 111, 115, 101, 100]
  | 1 => [117, 110, 111, 112, 101, 110, 101, 100]
  | 2 => [110, 111, 116, 104, 105, 110, 103]
  | 3 => [114, 111, 117, 110, 100]
  | _ => [100, 101, 101, 112]
noncomputable abbrev LD (p : List Nat) (fs : List (Bool × Bool × Bool)) (r : Bool) (a : Int) (x4 x5 x6 : Option D) : R (O × Sto) :=
  sWhile t_l_due_1 c_l_due_1 [some (.str p), some (.lst (fs.map dfr)), some (.bl r), some (.int a), x4, x5, x6] []
def GoD (p : List Nat) (fs : List (Bool × Bool × Bool)) (r : Bool) (a : Nat) (fs' : List (Bool × Bool × Bool)) (r' : Bool) (a' : Nat) : Prop :=
  ∀ x4 x5 x6, ∃ y4 y5 y6, LD p fs r a x4 x5 x6 = LD p fs' r' a' y4 y5 y6
def ExD (p : List Nat) (fs : List (Bool × Bool × Bool)) (r : Bool) (a c : Nat) : Prop := ∀ x4 x5 x6, LD p fs r a x4 x5 x6 = .ok (.rt (.str (nmE c)), [])
theorem GoD.trans {p : List Nat} {f1 f2 f3 : List (Bool × Bool × Bool)} {r1 r2 r3 : Bool} {a1 a2 a3 : Nat} (h : GoD p f1 r1 a1 f2 r2 a2) (h2 : GoD p f2 r2 a2 f3 r3 a3) : GoD p f1 r1 a1 f3 r3 a3 := by
  intro x4 x5 x6
  obtain ⟨y4, y5, y6, e⟩ := h x4 x5 x6
  obtain ⟨z4, z5, z6, e2⟩ := h2 y4 y5 y6
  exact ⟨z4, z5, z6, e.trans e2⟩
theorem GoD.refl (p : List Nat) (f : List (Bool × Bool × Bool)) (r : Bool) (a : Nat) : GoD p f r a f r a := fun x4 x5 x6 => ⟨x4, x5, x6, rfl⟩
theorem GoD.ex {p : List Nat} {f1 f2 : List (Bool × Bool × Bool)} {r1 r2 : Bool} {a1 a2 c : Nat} (h : GoD p f1 r1 a1 f2 r2 a2) (h2 : ExD p f2 r2 a2 c) : ExD p f1 r1 a1 c := by
  intro x4 x5 x6
  obtain ⟨y4, y5, y6, e⟩ := h x4 x5 x6
  exact e.trans (h2 y4 y5 y6)
theorem testD_t (p : List Nat) (F : D) (r : Bool) (a : Nat) (x4 x5 x6 : Option D) (h : a < p.length) (hp : p.length ≤ 16777216) :
    t_l_due_1 [some (.str p), some F, some (.bl r), some (.int (a : Int)), x4, x5, x6] [] = .ok (true, []) := by
  simp [t_l_due_1, hp, h]
theorem testD_f (p : List Nat) (F : D) (r : Bool) (x4 x5 x6 : Option D) (hp : p.length ≤ 16777216) :
    t_l_due_1 [some (.str p), some F, some (.bl r), some (.int (p.length : Int)), x4, x5, x6] [] = .ok (false, []) := by
  simp [t_l_due_1, hp]
theorem goD_of {p : List Nat} {fs fs' : List (Bool × Bool × Bool)} {r r' : Bool} {a a' : Nat} (ha : a < p.length) (hp : p.length ≤ 16777216)
    (h : ∀ x4 x5 x6, ∃ y4 y5 y6, c_l_due_1 [some (.str p), some (.lst (fs.map dfr)), some (.bl r), some (.int (a : Int)), x4, x5, x6] [] =
      .ok (.nx [some (.str p), some (.lst (fs'.map dfr)), some (.bl r'), some (.int (a' : Int)), y4, y5, y6], [])) : GoD p fs r a fs' r' a' := by
  intro x4 x5 x6
  obtain ⟨y4, y5, y6, e⟩ := h x4 x5 x6
  exact ⟨y4, y5, y6, sWhile_true (testD_t p _ r a x4 x5 x6 ha hp) (.inl e)⟩
theorem exD_of {p : List Nat} {fs : List (Bool × Bool × Bool)} {r : Bool} {a c : Nat} (ha : a < p.length) (hp : p.length ≤ 16777216)
    (h : ∀ x4 x5 x6, c_l_due_1 [some (.str p), some (.lst (fs.map dfr)), some (.bl r), some (.int (a : Int)), x4, x5, x6] [] = .ok (.rt (.str (nmE c)), [])) : ExD p fs r a c :=
  fun x4 x5 x6 => sWhile_ret (testD_t p _ r a x4 x5 x6 ha hp) (h x4 x5 x6)
theorem dr_last (base : List (Bool × Bool × Bool)) (f : Bool × Bool × Bool) (s : Sto) : opIx s (.lst ((base ++ [f]).map dfr)) (.int (-1)) = some (.tup [.bl f.1, .bl f.2.1, .bl f.2.2]) := by
  rw [List.map_append, List.map_cons, List.map_nil, ix_last]; rfl
theorem dr_cut (base : List (Bool × Bool × Bool)) (f : Bool × Bool × Bool) : cut ((base ++ [f]).map dfr) none (some (-1)) = base.map dfr := by
  rw [List.map_append, List.map_cons, List.map_nil, cut_last1]
theorem freeL_dfr : ∀ ds : List (Bool × Bool × Bool), freeL (ds.map dfr) = true
  | [] => rfl
  | d :: ds => by simp [dfr, freeL_dfr ds]
theorem lgrp_open (ds : List (Bool × Bool × Bool)) (f : Bool × Bool × Bool) (h : ds.length ≤ 29) : f_l_grouped [.lst ((ds ++ [f]).map dfr), .str [40]] = .ok (.lst ((ds ++ [f] ++ [(false, true, true)]).map dfr)) := by
  have e := dr_last ds f []
  have hl : ((ds ++ [f]).map dfr).length = ds.length + 1 := by simp
  have e2 : (ds ++ [f] ++ [(false, true, true)]).map dfr = (ds ++ [f]).map dfr ++ [.tup [.bl false, .bl true, .bl true]] := by simp [dfr]
  rw [e2]
  generalize (ds ++ [f]).map dfr = F at *
  simp [f_l_grouped, run_eq, b_l_grouped, b_l_grouped_1, b_l_grouped_2, e, hl, show ¬ (30 : Int) < (ds.length : Int) + 1 by omega, show ds.length ≤ 16777214 by omega, show ds.length ≤ 16777215 by omega, -opIx_lst]
theorem lgrp_deep (ds : List (Bool × Bool × Bool)) (f : Bool × Bool × Bool) (h : 30 ≤ ds.length) (h2 : ds.length ≤ 1000) : f_l_grouped [.lst ((ds ++ [f]).map dfr), .str [40]] = .ok (.str (nmE 4)) := by
  have e := dr_last ds f []
  have hl : ((ds ++ [f]).map dfr).length = ds.length + 1 := by simp
  generalize (ds ++ [f]).map dfr = F at *
  simp [f_l_grouped, run_eq, b_l_grouped, b_l_grouped_1, e, hl, show (30 : Int) < (ds.length : Int) + 1 by omega, show ds.length ≤ 16777215 by omega, nmE, -opIx_lst]
theorem lgrp_bar (ds : List (Bool × Bool × Bool)) (a b c : Bool) (h : ds.length ≤ 1000) : f_l_grouped [.lst ((ds ++ [(a, b, c)]).map dfr), .str [124]] = .ok (.lst ((ds ++ [(a || (b && c), true, true)]).map dfr)) := by
  have e := dr_last ds (a, b, c) []
  have e3 := dr_cut ds (a, b, c)
  have e2 : (ds ++ [(a || (b && c), true, true)]).map dfr = ds.map dfr ++ [.tup [.bl (a || (b && c)), .bl true, .bl true]] := by simp [dfr]
  rw [e2]
  generalize (ds ++ [(a, b, c)]).map dfr = F at *
  cases a <;> cases b <;> simp [f_l_grouped, run_eq, b_l_grouped, b_l_grouped_1, b_l_grouped_2, b_l_grouped_3, e, e3, pos, show ds.length ≤ 16777215 by omega, -opIx_lst]
theorem lgrp_one (a b c : Bool) : f_l_grouped [.lst ([(a, b, c)].map dfr), .str [41]] = .ok (.str (nmE 1)) := by
  simp [f_l_grouped, run_eq, b_l_grouped, b_l_grouped_1, b_l_grouped_2, b_l_grouped_3, b_l_grouped_4, dfr, pos, nmE]
theorem lclosed (ds : List (Bool × Bool × Bool)) (a0 b0 c0 a b c : Bool) (h : ds.length ≤ 1000) : f_l_closed [.lst ((ds ++ [(a0, b0, c0), (a, b, c)]).map dfr)] = .ok (.lst ((ds ++ [(a0, b0 && c0, a || (b && c))]).map dfr)) := by
  have e1 := fun s => ix_last s (ds.map dfr ++ [dfr (a0, b0, c0)]) (dfr (a, b, c))
  have e2 := fun s => ix_last2 s (ds.map dfr) (dfr (a0, b0, c0)) (dfr (a, b, c))
  have e3 := cut_last2 (ds.map dfr) (dfr (a0, b0, c0)) (dfr (a, b, c))
  have e0 : (ds ++ [(a0, b0, c0), (a, b, c)]).map dfr = ds.map dfr ++ [dfr (a0, b0, c0), dfr (a, b, c)] := by simp
  have e9 : ds.map dfr ++ [dfr (a0, b0, c0)] ++ [dfr (a, b, c)] = ds.map dfr ++ [dfr (a0, b0, c0), dfr (a, b, c)] := by simp
  rw [e9] at e1
  rw [e0]
  have f1 : dfr (a0, b0, c0) = .tup [.bl a0, .bl b0, .bl c0] := rfl
  have f2 : dfr (a, b, c) = .tup [.bl a, .bl b, .bl c] := rfl
  have f3 : (ds ++ [(a0, b0 && c0, a || (b && c))]).map dfr = ds.map dfr ++ [.tup [.bl a0, .bl (b0 && c0), .bl (a || (b && c))]] := by simp [dfr]
  rw [f3]
  generalize hX : ds.map dfr ++ [dfr (a0, b0, c0), dfr (a, b, c)] = X at *
  cases a <;> cases b <;> cases b0 <;> simp [f_l_closed, run_eq, b_l_closed, e1, e2, e3, f1, f2, pos, show ds.length ≤ 16777215 by omega, -opIx_lst]
theorem lgrp_close (ds : List (Bool × Bool × Bool)) (a0 b0 c0 a b c : Bool) (h : ds.length ≤ 1000) : f_l_grouped [.lst ((ds ++ [(a0, b0, c0)] ++ [(a, b, c)]).map dfr), .str [41]] = .ok (.lst ((ds ++ [(a0, b0 && c0, a || (b && c))]).map dfr)) := by
  have e := dr_last (ds ++ [(a0, b0, c0)]) (a, b, c) []
  have hc := lclosed ds a0 b0 c0 a b c h
  have hf := freeL_dfr (ds ++ [(a0, b0, c0)] ++ [(a, b, c)])
  rw [show ds ++ [(a0, b0, c0)] ++ [(a, b, c)] = ds ++ [(a0, b0, c0), (a, b, c)] by simp] at e hf ⊢
  have hl : ((ds ++ [(a0, b0, c0), (a, b, c)]).map dfr).length = ds.length + 2 := by simp
  generalize (ds ++ [(a0, b0, c0), (a, b, c)]).map dfr = F at *
  generalize (ds ++ [(a0, b0 && c0, a || (b && c))]).map dfr = F2 at *
  simp [f_l_grouped, run_eq, b_l_grouped, b_l_grouped_1, b_l_grouped_2, b_l_grouped_3, b_l_grouped_4, b_l_grouped_5, e, hl, hc, hf, show ds.length ≤ 16777214 by omega, show ¬ (ds.length : Int) + 2 = 1 by omega, -opIx_lst]
theorem lwrong (c : Nat) (r : Bool) (a b l : Bool) : f_l_wrong_repeat [.str [c], .bl r, .tup [.bl a, .bl b, .bl l]] = .ok (.str (if r = false then nmE 2 else if c = 42 ∧ l = true then nmE 3 else [])) := by
  by_cases hc : c = 42 <;> cases r <;> cases l <;> simp [f_l_wrong_repeat, run_eq, b_l_wrong_repeat, hc, pos, nmE]
/-- its own loop over a set -/
theorem lset_scan : ∀ (n : Nat) (z pre : List Nat) (p : List Nat), z.length ≤ n → p = pre ++ z → p.length ≤ 16777216 →
    ∃ e : Nat, sWhile t_l_set_end_1 c_l_set_end_1 [some (.str p), some (.int (pre.length : Int))] [] = .ok (.nx [some (.str p), some (.int (e : Int))], []) ∧ match scan z with | none => p.length ≤ e | some q => e + 1 = pre.length + q.2
  | n, [], pre, p, hn, hp, hl => by
    rw [List.append_nil] at hp
    subst hp
    exact ⟨p.length, sWhile_false (by simp [t_l_set_end_1, hl]), Nat.le_refl _⟩
  | 0, c :: z, pre, p, hn, hp, hl => by simp at hn
  | n + 1, c :: z, pre, p, hn, hp, hl => by
    rw [List.length_cons] at hn
    have hpl : p.length = pre.length + z.length + 1 := by rw [hp]; simp; omega
    have e2 := ix_at [] pre c z (by rw [← hp]; exact hl)
    rw [← hp] at e2
    have hlt : pre.length < p.length := by omega
    rw [scan_cons]
    by_cases h93 : c = 93
    · subst h93
      exact ⟨pre.length, sWhile_false (by simp [t_l_set_end_1, hl, hlt, e2]), by simp⟩
    · rw [if_neg h93]
      by_cases h126 : c = 126
      · subst h126
        rw [if_pos rfl]
        cases z with
        | nil =>
          simp only [List.length_nil] at hpl ⊢
          refine ⟨pre.length + 2, ?_, by omega⟩
          rw [sWhile_true (s' := []) (e' := [some (.str p), some (.int ((pre.length + 2 : Nat) : Int))]) (s2 := []) (by simp [t_l_set_end_1, hl, hlt, e2]) (.inl (by simp [c_l_set_end_1, hl, e2]; omega))]
          refine sWhile_false ?_
          simp [t_l_set_end_1, hl, show ¬ (pre.length : Int) + 2 < (p.length : Int) by omega]
        | cons d z =>
          simp only [List.length_cons] at hpl hn ⊢
          obtain ⟨e, ih, he⟩ := lset_scan n z (pre ++ [126, d]) p (by omega) (by rw [hp]; simp) hl
          refine ⟨e, ?_, ?_⟩
          · rw [sWhile_true (s' := []) (e' := [some (.str p), some (.int ((pre ++ [126, d]).length : Int))]) (s2 := []) (by simp [t_l_set_end_1, hl, hlt, e2]) (.inl (by simp [c_l_set_end_1, hl, e2]; omega)), ih]
          · cases hq : scan z with
            | none => rw [hq] at he; exact he
            | some q => rw [hq] at he; simp at he ⊢; omega
      · rw [if_neg h126]
        obtain ⟨e, ih, he⟩ := lset_scan n z (pre ++ [c]) p (by omega) (by rw [hp]; simp) hl
        refine ⟨e, ?_, ?_⟩
        · rw [sWhile_true (s' := []) (e' := [some (.str p), some (.int ((pre ++ [c]).length : Int))]) (s2 := []) (by simp [t_l_set_end_1, hl, hlt, e2, h93]) (.inl (by simp [c_l_set_end_1, hl, e2, h126])), ih]
        · cases hq : scan z with
          | none => rw [hq] at he; exact he
          | some q => rw [hq] at he; simp at he ⊢; omega
theorem lset_end (z pre p : List Nat) (hp : p = pre ++ z) (hl : p.length ≤ 16777216) :
    ∃ e : Nat, f_l_set_end [.str p, .int (pre.length : Int)] = .ok (.int (e : Int)) ∧ match scan z with | none => p.length ≤ e | some q => e + 1 = pre.length + q.2 := by
  obtain ⟨e, h, he⟩ := lset_scan z.length z pre p (Nat.le_refl _) hp hl
  exact ⟨e, by simp [f_l_set_end, run_eq, b_l_set_end, h], he⟩
theorem setT_scan (z : List Nat) : (setT z).map (·.2) = (scan z).map (·.2) := by
  cases z with
  | nil => rfl
  | cons c r =>
    unfold setT
    by_cases h : c = 33
    · subst h
      rw [scan_cons]
      simp
      cases scan r <;> rfl
    · simp only [if_neg h]
      cases scan (c :: r) <;> rfl
end Mt
end
section
namespace Mt
open Mini Bd
theorem d_open (pre post : List Nat) (base : List (Bool × Bool × Bool)) (f : Bool × Bool × Bool) (r : Bool) (hp : (pre ++ 40 :: post).length ≤ 16777216) (hf : base.length ≤ 29) :
    GoD (pre ++ 40 :: post) (base ++ [f]) r pre.length (base ++ [f] ++ [(false, true, true)]) false (pre.length + 1) := by
  refine goD_of (by simp) hp fun x4 x5 x6 => ⟨some (.str [40]), some (.tup [.bl f.1, .bl f.2.1, .bl f.2.2]), x6, ?_⟩
  have e1 := ix_at [] pre 40 post hp
  have e2 := lgrp_open base f hf
  have e3 := dr_last base f []
  have e4 := freeL_dfr (base ++ [f])
  generalize (base ++ [f]).map dfr = F at *
  generalize (base ++ [f] ++ [(false, true, true)]).map dfr = F2 at *
  generalize pre ++ 40 :: post = p at *
  simp [c_l_due_1, e1, e2, e3, e4, -opIx_lst]
theorem d_deep (pre post : List Nat) (base : List (Bool × Bool × Bool)) (f : Bool × Bool × Bool) (r : Bool) (hp : (pre ++ 40 :: post).length ≤ 16777216) (hf : 30 ≤ base.length) (h2 : base.length ≤ 1000) :
    ExD (pre ++ 40 :: post) (base ++ [f]) r pre.length 4 := by
  refine exD_of (by simp) hp fun x4 x5 x6 => ?_
  have e1 := ix_at [] pre 40 post hp
  have e2 := lgrp_deep base f hf h2
  have e3 := dr_last base f []
  have e4 := freeL_dfr (base ++ [f])
  generalize (base ++ [f]).map dfr = F at *
  generalize pre ++ 40 :: post = p at *
  simp [c_l_due_1, e1, e2, e3, e4, -opIx_lst]
theorem d_bar (pre post : List Nat) (base : List (Bool × Bool × Bool)) (a b c : Bool) (r : Bool) (hp : (pre ++ 124 :: post).length ≤ 16777216) (hf : base.length ≤ 1000) :
    GoD (pre ++ 124 :: post) (base ++ [(a, b, c)]) r pre.length (base ++ [(a || (b && c), true, true)]) false (pre.length + 1) := by
  refine goD_of (by simp) hp fun x4 x5 x6 => ⟨some (.str [124]), some (.tup [.bl a, .bl b, .bl c]), x6, ?_⟩
  have e1 := ix_at [] pre 124 post hp
  have e2 := lgrp_bar base a b c hf
  have e3 := dr_last base (a, b, c) []
  have e4 := freeL_dfr (base ++ [(a, b, c)])
  generalize (base ++ [(a, b, c)]).map dfr = F at *
  generalize (base ++ [(a || (b && c), true, true)]).map dfr = F2 at *
  generalize pre ++ 124 :: post = p at *
  simp [c_l_due_1, e1, e2, e3, e4, -opIx_lst]
theorem d_close (pre post : List Nat) (base : List (Bool × Bool × Bool)) (a0 b0 c0 a b c : Bool) (r : Bool) (hp : (pre ++ 41 :: post).length ≤ 16777216) (hf : base.length ≤ 1000) :
    GoD (pre ++ 41 :: post) (base ++ [(a0, b0, c0)] ++ [(a, b, c)]) r pre.length (base ++ [(a0, b0 && c0, a || (b && c))]) true (pre.length + 1) := by
  refine goD_of (by simp) hp fun x4 x5 x6 => ⟨some (.str [41]), some (.tup [.bl a, .bl b, .bl c]), x6, ?_⟩
  have e1 := ix_at [] pre 41 post hp
  have e2 := lgrp_close base a0 b0 c0 a b c hf
  have e3 := dr_last (base ++ [(a0, b0, c0)]) (a, b, c) []
  have e4 := freeL_dfr (base ++ [(a0, b0, c0)] ++ [(a, b, c)])
  generalize (base ++ [(a0, b0, c0)] ++ [(a, b, c)]).map dfr = F at *
  generalize (base ++ [(a0, b0 && c0, a || (b && c))]).map dfr = F2 at *
  generalize pre ++ 41 :: post = p at *
  simp [c_l_due_1, e1, e2, e3, e4, -opIx_lst]
theorem d_one (pre post : List Nat) (a b c : Bool) (r : Bool) (hp : (pre ++ 41 :: post).length ≤ 16777216) : ExD (pre ++ 41 :: post) [(a, b, c)] r pre.length 1 := by
  refine exD_of (by simp) hp fun x4 x5 x6 => ?_
  have e1 := ix_at [] pre 41 post hp
  have e2 := lgrp_one a b c
  have e3 := dr_last [] (a, b, c) []
  rw [List.nil_append] at e3
  have e4 := freeL_dfr [(a, b, c)]
  generalize [(a, b, c)].map dfr = F at *
  generalize pre ++ 41 :: post = p at *
  simp [c_l_due_1, e1, e2, e3, e4, -opIx_lst]
theorem d_wrong (pre post : List Nat) (s x : Nat) (base : List (Bool × Bool × Bool)) (a b c : Bool) (r : Bool) (hs : s = 42 ∨ s = 63) (hp : (pre ++ s :: post).length ≤ 16777216) (hx : (r = false ∧ x = 2) ∨ (r = true ∧ s = 42 ∧ c = true ∧ x = 3)) :
    ExD (pre ++ s :: post) (base ++ [(a, b, c)]) r pre.length x := by
  refine exD_of (by simp) hp fun x4 x5 x6 => ?_
  have e1 := ix_at [] pre s post hp
  have e2 := lwrong s r a b c
  have e3 := dr_last base (a, b, c) []
  generalize (base ++ [(a, b, c)]).map dfr = F at *
  generalize pre ++ s :: post = p at *
  rcases hx with ⟨rfl, rfl⟩ | ⟨rfl, rfl, rfl, rfl⟩
  · rcases hs with rfl | rfl <;> simp [c_l_due_1, e1, e2, e3, nmE, -opIx_lst]
  · simp [c_l_due_1, e1, e2, e3, nmE, -opIx_lst]
theorem d_rep (pre post : List Nat) (s : Nat) (base : List (Bool × Bool × Bool)) (a b c : Bool) (hs : s = 42 ∨ s = 63) (hp : (pre ++ s :: post).length ≤ 16777216) (hc : ¬ (s = 42 ∧ c = true)) (hf : base.length ≤ 1000) :
    GoD (pre ++ s :: post) (base ++ [(a, b, c)]) true pre.length (base ++ [(a, b, true)]) false (pre.length + (if post.take 1 = [33] then 2 else 1)) := by
  refine goD_of (by simp) hp fun x4 x5 x6 => ⟨some (.str [s]), some (.tup [.bl a, .bl b, .bl c]), some (.str []), ?_⟩
  have e1 := ix_at [] pre s post hp
  have e2 := lwrong s true a b c
  rw [if_neg (by simp), if_neg hc] at e2
  have e3 := dr_last base (a, b, c) []
  have e4 := dr_cut base (a, b, c)
  have e5 : (base ++ [(a, b, true)]).map dfr = base.map dfr ++ [.tup [.bl a, .bl b, .bl true]] := by simp [dfr]
  have e8 := cut_at (pre ++ [s]) post 1
  have e9 : ((pre ++ [s]).length : Int) = (pre.length : Int) + 1 := by simp
  rw [e9, show pre ++ [s] ++ post = pre ++ s :: post by simp, show (pre.length : Int) + 1 + ((1 : Nat) : Int) = (pre.length : Int) + 2 by omega] at e8
  rw [e5]
  generalize (base ++ [(a, b, c)]).map dfr = F at *
  generalize pre ++ s :: post = p at *
  generalize post.take 1 = q at *
  by_cases hq : q = [33]
  · rcases hs with rfl | rfl <;> simp [c_l_due_1, e1, e2, e3, e4, e8, hq, hp, pos, show base.length ≤ 16777215 by omega, -opIx_lst] <;> omega
  · rcases hs with rfl | rfl <;> simp [c_l_due_1, e1, e2, e3, e4, e8, hq, hp, pos, show base.length ≤ 16777215 by omega, -opIx_lst]
theorem d_piece (pre post : List Nat) (s : Nat) (base : List (Bool × Bool × Bool)) (a b c : Bool) (r : Bool) (hs : s ≠ 40 ∧ s ≠ 41 ∧ s ≠ 124 ∧ s ≠ 42 ∧ s ≠ 63) (hp : (pre ++ s :: post).length ≤ 10000) (hf : base.length ≤ 1000) :
    match pieceT s post with
    | .inl x => ExD (pre ++ s :: post) (base ++ [(a, b, c)]) r pre.length x
    | .inr q => GoD (pre ++ s :: post) (base ++ [(a, b, c)]) r pre.length (base ++ [(a, b && c, false)]) true (pre.length + q.2) := by
  obtain ⟨c1, c2, c3, c4, c5⟩ := hs
  have hp' : (pre ++ s :: post).length ≤ 16777216 := by omega
  have hpl : (pre ++ s :: post).length = pre.length + post.length + 1 := by simp; omega
  have e1 := ix_at [] pre s post hp'
  have e3 := dr_last base (a, b, c) []
  have e4 := dr_cut base (a, b, c)
  have e5 : (base ++ [(a, b && c, false)]).map dfr = base.map dfr ++ [.tup [.bl a, .bl (b && c), .bl false]] := by simp [dfr]
  have e6 := lset_end post (pre ++ [s]) (pre ++ s :: post) (by simp) hp'
  rw [len_snoc] at e6
  have e7 := setT_scan post
  have hn1 : ¬ pre ++ s :: post = [] := by simp
  unfold pieceT
  by_cases h93 : s = 93
  · subst h93
    simp only [if_pos]
    refine exD_of (by simp) hp' fun x4 x5 x6 => ?_
    generalize (base ++ [(a, b, c)]).map dfr = F at *
    generalize pre ++ 93 :: post = p at *
    simp [c_l_due_1, e1, e3, nmE, -opIx_lst]
  · simp only [if_neg h93]
    by_cases h91 : s = 91
    · subst h91
      simp only [if_pos]
      obtain ⟨e, he, hq⟩ := e6
      cases hS : setT post with
      | none =>
        rw [hS] at e7
        have hsc : scan post = none := by cases h : scan post with
          | none => rfl
          | some q => rw [h] at e7; cases e7
        rw [hsc] at hq
        simp only at hq ⊢
        refine exD_of (by simp) hp' fun x4 x5 x6 => ?_
        generalize (base ++ [(a, b, c)]).map dfr = F at *
        generalize pre ++ 91 :: post = p at *
        simp [c_l_due_1, e1, e3, he, nmE, hp', show (p.length : Int) ≤ (e : Int) by omega, -opIx_lst]
      | some q =>
        rw [hS] at e7
        obtain ⟨q2, hsc, hq2⟩ : ∃ q2, scan post = some q2 ∧ q2.2 = q.2 := by cases h : scan post with
          | none => rw [h] at e7; cases e7
          | some q2 => rw [h] at e7; simp at e7; exact ⟨q2, rfl, e7.symm⟩
        rw [hsc] at hq
        have hsl := scan_len _ post (Nat.le_refl _) hsc
        simp only [List.length_append, List.length_singleton] at hq
        simp only
        refine goD_of (by simp) hp' fun x4 x5 x6 => ⟨some (.str [91]), some (.tup [.bl a, .bl b, .bl c]), x6, ?_⟩
        rw [e5]
        generalize (base ++ [(a, b, c)]).map dfr = F at *
        generalize pre ++ 91 :: post = p at *
        cases b <;> simp [c_l_due_1, e1, e3, e4, he, pos, hp', show ¬ (p.length : Int) ≤ (e : Int) by omega, show base.length ≤ 16777215 by omega, -opIx_lst] <;> omega
    · simp only [if_neg h91]
      by_cases h46 : s = 46
      · subst h46
        simp only [if_pos]
        refine goD_of (by simp) hp' fun x4 x5 x6 => ⟨some (.str [46]), some (.tup [.bl a, .bl b, .bl c]), x6, ?_⟩
        rw [e5]
        generalize (base ++ [(a, b, c)]).map dfr = F at *
        generalize pre ++ 46 :: post = p at *
        cases b <;> simp [c_l_due_1, e1, e3, e4, pos, hp', show ¬ (p.length : Int) ≤ (pre.length : Int) by omega, show base.length ≤ 16777215 by omega, -opIx_lst]
      · simp only [if_neg h46]
        by_cases h126 : s = 126
        · subst h126
          simp only [if_pos]
          cases post with
          | nil =>
            simp only [List.length_nil] at hpl ⊢
            refine exD_of (by simp) hp' fun x4 x5 x6 => ?_
            generalize (base ++ [(a, b, c)]).map dfr = F at *
            generalize pre ++ [126] = p at *
            simp [c_l_due_1, e1, e3, nmE, hp', show (p.length : Int) ≤ (pre.length : Int) + 1 by omega, -opIx_lst]
          | cons d z =>
            simp only [List.length_cons] at hpl ⊢
            refine goD_of (by simp) hp' fun x4 x5 x6 => ⟨some (.str [126]), some (.tup [.bl a, .bl b, .bl c]), x6, ?_⟩
            rw [e5]
            generalize (base ++ [(a, b, c)]).map dfr = F at *
            generalize pre ++ 126 :: d :: z = p at *
            cases b <;> simp [c_l_due_1, e1, e3, e4, pos, hp', show ¬ (p.length : Int) ≤ (pre.length : Int) + 1 by omega, show base.length ≤ 16777215 by omega, -opIx_lst] <;> omega
        · simp only [if_neg h126]
          refine goD_of (by simp) hp' fun x4 x5 x6 => ⟨some (.str [s]), some (.tup [.bl a, .bl b, .bl c]), x6, ?_⟩
          rw [e5]
          generalize (base ++ [(a, b, c)]).map dfr = F at *
          generalize pre ++ s :: post = p at *
          cases b <;> simp [c_l_due_1, e1, e3, e4, c1, c2, c3, c4, c5, h93, h91, h126, pos, hp', show ¬ (p.length : Int) ≤ (pre.length : Int) by omega, show base.length ≤ 16777215 by omega, -opIx_lst]
theorem due_ex {p : List Nat} {c : Nat} (h : ExD p [(false, true, true)] false 0 c) : f_l_due [.str p] = .ok (.str (nmE c)) := by
  have e := h none none none
  have e : sWhile t_l_due_1 c_l_due_1 [some (.str p), some (.lst [.tup [.bl false, .bl true, .bl true]]), some (.bl false), some (.int 0), none, none, none] [] = _ := e
  simp [f_l_due, run_eq, b_l_due, e]
theorem due_end {p : List Nat} {fs : List (Bool × Bool × Bool)} {r : Bool} (hp : p.length ≤ 16777216) (h : GoD p [(false, true, true)] false 0 fs r p.length) (hl : fs.length ≤ 1000) : f_l_due [.str p] = .ok (.str (if 1 < fs.length then nmE 0 else [])) := by
  obtain ⟨y4, y5, y6, e⟩ := h none none none
  have e2 : LD p fs r (p.length : Int) y4 y5 y6 = _ := sWhile_false (testD_f p (.lst (fs.map dfr)) r y4 y5 y6 hp)
  rw [e2] at e
  have e : sWhile t_l_due_1 c_l_due_1 [some (.str p), some (.lst [.tup [.bl false, .bl true, .bl true]]), some (.bl false), some (.int 0), none, none, none] [] = _ := e
  by_cases h1 : 1 < fs.length
  · simp [f_l_due, run_eq, b_l_due, e, show fs.length ≤ 16777216 by omega, show (1 : Int) < fs.length by omega, h1, nmE]
  · simp [f_l_due, run_eq, b_l_due, e, show fs.length ≤ 16777216 by omega, show ¬ (1 : Int) < fs.length by omega, h1]
end Mt
end
section
namespace Mt
open Mini Bd
/-! both readers side by side -/
theorem bareA_snoc (P : List Tr) (t : Tr) : bareA (P ++ [t]) = (bareA P && bare t) := by rw [bareA_eq, bareA_eq]; simp
theorem bareE_snoc (P : List Tr) (t : Tr) : bareE (P ++ [t]) = (bareE P || bare t) := by rw [bareE_eq, bareE_eq]; simp
theorem szL_snoc (P : List Tr) (t : Tr) : szL (P ++ [t]) = szL P + sz t := by rw [szL_eq, szL_eq]; simp
theorem rw_wf {P : List Tr} (h : ∀ t ∈ P, wf t = true) (hl : P.length ≤ 5000) : wf (rw' P) = true := by
  match P, h, hl with
  | [], _, _ => rfl
  | [t], h, _ => exact h t (by simp)
  | t :: u :: r, h, hl =>
    show wf (.row (t :: u :: r)) = true
    rw [wf, wfL_eq, Bool.and_eq_true, List.all_eq_true]
    exact ⟨by simp at hl ⊢; omega, h⟩
theorem rw_hi (P : List Tr) : hi (rw' P) ≤ hiL P + 1 := by
  match P with
  | [] => simp [rw', hi]
  | [t] => simp [rw', hiL]
  | t :: u :: r => show hi (.row (t :: u :: r)) ≤ _; rw [hi]; omega
theorem rw_sz (P : List Tr) : sz (rw' P) = szL P := by
  match P with
  | [] => simp [rw', sz, szL]
  | [t] => simp [rw', szL]
  | t :: u :: r => show sz (.row (t :: u :: r)) = _; rw [sz]
theorem rw_bare (P : List Tr) : bare (rw' P) = bareA P := by
  match P with
  | [] => simp [rw', bare]
  | [t] => simp [rw', bareA]
  | t :: u :: r => show bare (.row (t :: u :: r)) = _; rw [bare]
theorem pk_wf {P : List Tr} (hn : P ≠ []) (h : ∀ t ∈ P, wf t = true) (hl : P.length ≤ 5000) : wf (pk' P) = true := by
  match P, hn, h, hl with
  | [], hn, _, _ => exact absurd rfl hn
  | [t], _, h, _ => exact h t (by simp)
  | t :: u :: r, _, h, hl =>
    show wf (.pick (t :: u :: r)) = true
    rw [wf, wfL_eq, Bool.and_eq_true, List.all_eq_true]
    exact ⟨by simp at hl ⊢; omega, h⟩
theorem pk_hi (P : List Tr) : hi (pk' P) ≤ hiL P + 1 := by
  match P with
  | [] => simp [pk', hi]
  | [t] => simp [pk', hiL]
  | t :: u :: r => show hi (.pick (t :: u :: r)) ≤ _; rw [hi]; omega
theorem pk_sz {P : List Tr} (hn : P ≠ []) : sz (pk' P) = szL P + P.length - 1 := by
  match P, hn with
  | [], hn => exact absurd rfl hn
  | [t], _ => simp [pk', szL]
  | t :: u :: r, _ => show sz (.pick (t :: u :: r)) = _; rw [sz]
theorem pk_bare (P : List Tr) : bare (pk' P) = bareE P := by
  match P with
  | [] => simp [pk', bare]
  | [t] => simp [pk', bareE]
  | t :: u :: r => show bare (.pick (t :: u :: r)) = _; rw [bare]
def lstB (P : List Tr) : Bool := match P.getLast? with
  | none => true
  | some t => bare t
def dfF (f : List Tr × List Tr) : Bool × Bool × Bool := (bareE f.1, bareA f.2.dropLast, lstB f.2)
theorem dfF_snoc (R P : List Tr) (t : Tr) : dfF (R, P ++ [t]) = (bareE R, bareA P, bare t) := by simp [dfF, lstB]
theorem dl_all (P : List Tr) : (bareA P.dropLast && lstB P) = bareA P := by
  rcases List.eq_nil_or_concat P with rfl | ⟨Q, t, rfl⟩
  · rfl
  · rw [List.concat_eq_append, bareA_snoc]; simp [lstB]
theorem wf_hi_nn {P : List Tr} (h : ∀ t ∈ P, wf t = true) : 0 ≤ szL P := by
  induction P with
  | nil => rw [szL]; omega
  | cons t P ih =>
    rw [szL]
    have := sz_nn_aux _ t (Nat.le_refl _) (h t List.mem_cons_self)
    have := ih fun u hu => h u (List.mem_cons_of_mem _ hu)
    omega
def OkF (i : Nat) (f : List Tr × List Tr) : Prop := (∀ t ∈ f.1, wf t = true ∧ hi t + 3 * i ≤ 93) ∧ (∀ t ∈ f.2, wf t = true ∧ hi t + 3 * i ≤ 92)
def OkB (base : List (List Tr × List Tr)) : Prop := ∀ i f, base[i]? = some f → OkF i f
def mf (f : List Tr × List Tr) : Int := szL f.1 + f.1.length + (szL f.2 + f.2.length)
def mF : List (List Tr × List Tr) → Int
  | [] => 0
  | f :: fs => mf f + mF fs
theorem mF_snoc : ∀ (b : List (List Tr × List Tr)) (f : List Tr × List Tr), mF (b ++ [f]) = mF b + mf f
  | [], f => by simp [mF]
  | x :: b, f => by rw [List.cons_append, mF, mF, mF_snoc b f]; omega
theorem mf_nn {i : Nat} {f : List Tr × List Tr} (h : OkF i f) : 0 ≤ szL f.1 ∧ 0 ≤ szL f.2 := ⟨wf_hi_nn fun t ht => (h.1 t ht).1, wf_hi_nn fun t ht => (h.2 t ht).1⟩
theorem mF_nn : ∀ (b : List (List Tr × List Tr)), (∀ f ∈ b, ∃ i, OkF i f) → 0 ≤ mF b
  | [], _ => by simp [mF]
  | x :: b, h => by
    obtain ⟨i, hx⟩ := h x List.mem_cons_self
    have := mf_nn hx
    have := mF_nn b fun f hf => h f (List.mem_cons_of_mem _ hf)
    rw [mF, mf]; omega
theorem OkB.nn {b : List (List Tr × List Tr)} (h : OkB b) : 0 ≤ mF b := mF_nn b fun f hf => by
  obtain ⟨i, hi, e⟩ := List.getElem_of_mem hf
  exact ⟨i, h i f (by rw [List.getElem?_eq_getElem hi, e])⟩
theorem OkB.snoc {b : List (List Tr × List Tr)} {f : List Tr × List Tr} (h : OkB b) (hf : OkF b.length f) : OkB (b ++ [f]) := fun i g e => by
  by_cases hi : i < b.length
  · rw [List.getElem?_append_left hi] at e; exact h i g e
  · rw [List.getElem?_append_right (by omega)] at e
    have : i = b.length := by
      have := (List.getElem?_eq_some_iff.mp e).1
      simp at this; omega
    subst this
    simp at e; subst e; exact hf
theorem OkB.un {b : List (List Tr × List Tr)} {f : List Tr × List Tr} (h : OkB (b ++ [f])) : OkB b ∧ OkF b.length f :=
  ⟨fun i g e => h i g (by rw [List.getElem?_append_left (List.getElem?_eq_some_iff.mp e).1]; exact e), h b.length f (by simp)⟩
structure Stt (base : List (List Tr × List Tr)) (R P : List Tr) (r : Bool) (a : Nat) : Prop where
  bl : base.length ≤ 30
  ob : OkB base
  of : OkF base.length (R, P)
  la : r = true → ∃ P0 t, P = P0 ++ [t] ∧ hi t + 3 * base.length ≤ 91
  ms : mF base + mf (R, P) ≤ 2 * a
theorem Stt.lens {base : List (List Tr × List Tr)} {R P : List Tr} {r : Bool} {a : Nat} (h : Stt base R P r a) (ha : a ≤ 1000) : R.length ≤ 2000 ∧ P.length ≤ 2000 ∧ szL R + R.length + (szL P + P.length) ≤ 2000 := by
  have h1 := mf_nn h.of
  have h2 := h.ob.nn
  have h3 := h.ms
  simp only [mf] at h3 h1
  omega
/-- what a piece is -/
theorem pieceT_ok {c : Nat} {z : List Nat} {q : Tr × Nat} (h : pieceT c z = .inr q) (hz : z.length ≤ 1000) (ht : ∀ x ∈ c :: z, x ∈ tbl) : wf q.1 = true ∧ hi q.1 = 1 ∧ sz q.1 = 1 ∧ bare q.1 = false ∧ 1 ≤ q.2 ∧ q.2 ≤ z.length + 1 := by
  have key : ∀ (b : Bool) (y : List Nat), y.length ≤ 1000 → (∀ x ∈ y, x ∈ tbl) → wf (.take b y) = true := fun b y h1 h2 => by
    rw [wf, Bool.and_eq_true, decide_eq_true_eq, List.all_eq_true]
    exact ⟨h1, fun x hx => decide_eq_true (h2 x hx)⟩
  unfold pieceT at h
  split at h
  · cases h
  · split at h
    · split at h
      · cases h
      · rename_i q0 hq0
        cases h
        unfold setT at hq0
        cases z with
        | nil => cases hq0
        | cons d r =>
          simp only at hq0
          split at hq0
          · obtain ⟨s, hs, rfl⟩ := Option.map_eq_some_iff.mp hq0
            have := scan_len _ r (Nat.le_refl _) hs
            simp only [List.length_cons] at hz ⊢
            exact ⟨key _ _ (by omega) fun x hx => ht x (by have := this.2.2.2 x hx; simp [this]), by rw [hi], by rw [sz], by rw [bare], by omega, by omega⟩
          · obtain ⟨s, hs, rfl⟩ := Option.map_eq_some_iff.mp hq0
            have := scan_len _ (d :: r) (Nat.le_refl _) hs
            simp only [List.length_cons] at hz this ⊢
            exact ⟨key _ _ (by omega) fun x hx => ht x (by have := this.2.2.2 x hx; exact List.mem_cons_of_mem _ this), by rw [hi], by rw [sz], by rw [bare], by omega, by omega⟩
    · split at h
      · cases h
        exact ⟨key _ _ (by simp) (by simp), by rw [hi], by rw [sz], by rw [bare], by simp, by simp⟩
      · split at h
        · cases z with
          | nil => cases h
          | cons d r =>
            cases h
            exact ⟨key _ _ (by simp) (fun x hx => ht x (by simp at hx; simp [hx])), by rw [hi], by rw [sz], by rw [bare], by simp, by simp⟩
        · cases h
          exact ⟨key _ _ (by simp) (fun x hx => ht x (by simp at hx; simp [hx])), by rw [hi], by rw [sz], by rw [bare], by simp, by simp⟩
theorem pieceT_ex {c : Nat} {z : List Nat} {x : Nat} (h : pieceT c z = .inl x) : x < 5 := by
  unfold pieceT at h
  split at h
  · cases h; decide
  · split at h
    · split at h
      · cases h; decide
      · cases h
    · split at h
      · cases h
      · split at h
        · split at h
          · cases h; decide
          · cases h
        · cases h
end Mt
end
section
namespace Mt
open Mini Bd
/-- one refuses as the other, or both come to the end -/
def Jo (p : List Nat) (base : List (List Tr × List Tr)) (R P : List Tr) (r : Bool) (a : Nat) : Prop :=
  (∃ c, c < 5 ∧ Ex p (base ++ [(R, P)]) r a c ∧ ExD p ((base ++ [(R, P)]).map dfF) r a c) ∨
  (∃ base' R' P' r', Stt base' R' P' r' p.length ∧ Go p (base ++ [(R, P)]) r a (base' ++ [(R', P')]) r' p.length ∧ GoD p ((base ++ [(R, P)]).map dfF) r a ((base' ++ [(R', P')]).map dfF) r' p.length)
theorem Jo.step {p : List Nat} {b1 b2 : List (List Tr × List Tr)} {R1 P1 R2 P2 : List Tr} {r1 r2 : Bool} {a1 a2 : Nat} (g : Go p (b1 ++ [(R1, P1)]) r1 a1 (b2 ++ [(R2, P2)]) r2 a2) (d : GoD p ((b1 ++ [(R1, P1)]).map dfF) r1 a1 ((b2 ++ [(R2, P2)]).map dfF) r2 a2)
    (h : Jo p b2 R2 P2 r2 a2) : Jo p b1 R1 P1 r1 a1 := by
  rcases h with ⟨c, hc, e, x⟩ | ⟨b, R, P, r, s, e, x⟩
  · exact .inl ⟨c, hc, g.ex e, d.ex x⟩
  · exact .inr ⟨b, R, P, r, s, g.trans e, d.trans x⟩
theorem map_snoc (base : List (List Tr × List Tr)) (f : List Tr × List Tr) : (base ++ [f]).map dfF = base.map dfF ++ [dfF f] := by simp
theorem hiL_bd {P : List Tr} {m k : Nat} (h : ∀ t ∈ P, hi t + m ≤ k) (hm : m ≤ k) : hiL P + m ≤ k := by
  have := hiL_le (ps := P) (n := k - m) fun t ht => by have := h t ht; omega
  omega
theorem joint (n : Nat) : ∀ (pre post p : List Nat) (base : List (List Tr × List Tr)) (R P : List Tr) (r : Bool), p = pre ++ post → post.length ≤ n → p.length ≤ 1000 → (∀ c ∈ p, c ∈ tbl) → Stt base R P r pre.length → Jo p base R P r pre.length := by
  have stop : ∀ (pre p : List Nat) (base : List (List Tr × List Tr)) (R P : List Tr) (r : Bool), p = pre ++ [] → Stt base R P r pre.length → Jo p base R P r pre.length := fun pre p base R P r e st => by
    rw [List.append_nil] at e
    subst e
    exact .inr ⟨base, R, P, r, st, Go.refl _ _ _ _, GoD.refl _ _ _ _⟩
  induction n with
  | zero =>
    intro pre post p base R P r e hn hl ht st
    have : post = [] := List.eq_nil_of_length_eq_zero (by omega)
    subst this
    exact stop pre p base R P r e st
  | succ n ih =>
    intro pre post p base R P r e hn hl ht st
    cases post with
    | nil => exact stop pre p base R P r e st
    | cons c post =>
      subst e
      have hlen : (pre ++ c :: post).length = pre.length + post.length + 1 := by simp; omega
      rw [List.length_cons] at hn
      have h16 : (pre ++ c :: post).length ≤ 16777216 := by omega
      have next : ∀ (k : Nat) (b2 : List (List Tr × List Tr)) (R2 P2 : List Tr) (r2 : Bool), 1 ≤ k → k ≤ post.length + 1 → Stt b2 R2 P2 r2 (pre.length + k) → Jo (pre ++ c :: post) b2 R2 P2 r2 (pre.length + k) := by
        intro k b2 R2 P2 r2 h1 h2 s2
        have hL : (pre ++ (c :: post).take k).length = pre.length + k := by simp; omega
        have := ih (pre ++ (c :: post).take k) ((c :: post).drop k) (pre ++ c :: post) b2 R2 P2 r2 (by rw [List.append_assoc, List.take_append_drop]) (by simp; omega) hl ht (by rw [hL]; exact s2)
        rwa [hL] at this
      obtain ⟨sR, sP, sM⟩ := st.lens (by omega)
      have hbl := st.bl
      have hlm : (base.map dfF).length = base.length := by simp
      have hms := st.ms
      have hwP : ∀ t ∈ P, wf t = true := fun t ht => (st.of.2 t ht).1
      by_cases h40 : c = 40
      · subst h40
        by_cases hb : base.length ≤ 29
        · refine Jo.step (step_open pre post base R P r h16 hb) ?_ (next 1 (base ++ [(R, P)]) [] [] false (by omega) (by omega) ⟨by simp; omega, st.ob.snoc st.of, ⟨by simp, by simp⟩, by simp, by rw [mF_snoc]; simp only [mf, szL, List.length_nil]; simp only [mf] at hms; omega⟩)
          rw [map_snoc, map_snoc, map_snoc]
          exact d_open pre post (base.map dfF) (dfF (R, P)) r h16 (by omega)
        · exact .inl ⟨4, by omega, ex_open pre post base R P r h16 (by omega), by rw [map_snoc]; exact d_deep pre post (base.map dfF) (dfF (R, P)) r h16 (by omega) (by omega)⟩
      by_cases h41 : c = 41
      · subst h41
        rcases List.eq_nil_or_concat base with rfl | ⟨b0, ⟨R0, P0⟩, e0⟩
        · exact .inl ⟨1, by omega, ex_close pre post R P r h16, d_one pre post (bareE R) (bareA P.dropLast) (lstB P) r h16⟩
        · rw [List.concat_eq_append] at e0
          subst e0
          have hbl0 : b0.length + 1 ≤ 30 := by simpa using hbl
          obtain ⟨ob0, of0⟩ := st.ob.un
          have n0 := mf_nn of0
          have nn0 := ob0.nn
          have n1 := mf_nn st.of
          have hof := st.of
          rw [show (b0 ++ [(R0, P0)]).length = b0.length + 1 by simp] at hof
          rw [mF_snoc] at hms
          simp only [mf] at hms n0 n1
          have sP0 : P0.length ≤ 2000 := by omega
          have hsz : sz (pk' (R ++ [rw' P])) = szL R + szL P + R.length := by rw [pk_sz (by simp), szL_snoc, rw_sz]; simp; omega
          have hhi : hi (pk' (R ++ [rw' P])) + 3 * b0.length ≤ 91 := by
            have a1 := pk_hi (R ++ [rw' P])
            have a2 := hiL_bd (P := P) (m := 3 * (b0.length + 1)) (k := 92) (fun t ht => (hof.2 t ht).2) (by omega)
            have a3 := hiL_bd (P := R ++ [rw' P]) (m := 3 * (b0.length + 1)) (k := 93) (fun t ht => by
              rcases List.mem_append.mp ht with ht | ht
              · exact (hof.1 t ht).2
              · rw [List.mem_singleton.mp ht]; have := rw_hi P; omega) (by omega)
            omega
          have hwf : wf (pk' (R ++ [rw' P])) = true := pk_wf (by simp) (fun t ht => by
            rcases List.mem_append.mp ht with ht | ht
            · exact (hof.1 t ht).1
            · rw [List.mem_singleton.mp ht]; exact rw_wf hwP (by omega)) (by simp; omega)
          refine Jo.step (step_close pre post b0 R0 P0 R P r h16 (by omega) (by omega) (by omega)) ?_ (next 1 b0 R0 (P0 ++ [pk' (R ++ [rw' P])]) true (by omega) (by omega) ⟨by omega, ob0, ⟨of0.1, fun t ht => ?_⟩, fun _ => ⟨P0, _, rfl, hhi⟩, ?_⟩)
          · rw [map_snoc, map_snoc, map_snoc, dfF_snoc, pk_bare, bareE_snoc, rw_bare]
            have := d_close pre post (b0.map dfF) (bareE R0) (bareA P0.dropLast) (lstB P0) (bareE R) (bareA P.dropLast) (lstB P) r h16 (by simp; omega)
            rw [dl_all, dl_all] at this
            exact this
          · rcases List.mem_append.mp ht with ht | ht
            · exact of0.2 t ht
            · rw [List.mem_singleton.mp ht]; exact ⟨hwf, by omega⟩
          · simp only [mf, szL_snoc, hsz, List.length_append, List.length_singleton]
            omega
      by_cases h124 : c = 124
      · subst h124
        have n1 := mf_nn st.of
        simp only [mf] at hms n1
        refine Jo.step (step_bar pre post base R P r h16 (by omega) (by omega)) ?_ (next 1 base (R ++ [rw' P]) [] false (by omega) (by omega) ⟨hbl, st.ob, ⟨fun t ht => ?_, by simp⟩, by simp, ?_⟩)
        · rw [map_snoc, map_snoc]
          have e1 : dfF (R ++ [rw' P], []) = (bareE R || bareA P, true, true) := by
            show (bareE (R ++ [rw' P]), bareA [], true) = _
            rw [bareE_snoc, rw_bare]; rfl
          rw [e1]
          have := d_bar pre post (base.map dfF) (bareE R) (bareA P.dropLast) (lstB P) r h16 (by omega)
          rw [dl_all] at this
          exact this
        · rcases List.mem_append.mp ht with ht | ht
          · exact st.of.1 t ht
          · rw [List.mem_singleton.mp ht]
            have a2 := hiL_bd (P := P) (m := 3 * base.length) (k := 92) (fun t ht => (st.of.2 t ht).2) (by omega)
            have := rw_hi P
            exact ⟨rw_wf hwP (by omega), by omega⟩
        · simp only [mf, szL_snoc, rw_sz, List.length_append, List.length_singleton, List.length_nil, szL]
          omega
      by_cases hr : c = 42 ∨ c = 63
      · cases r with
        | false => exact .inl ⟨2, by omega, ex_repeat pre post c base R P hr h16, by rw [map_snoc]; exact d_wrong pre post c 2 (base.map dfF) _ _ _ false hr h16 (.inl ⟨rfl, rfl⟩)⟩
        | true =>
          obtain ⟨P0, t, rfl, hhi⟩ := st.la rfl
          have hbt : f_p_bare 200 [td t] = .ok (.bl (bare t)) := p_bare 200 t (by omega) (hwP t (by simp))
          have hP0 : P0.length ≤ 2000 := by simp at sP; omega
          by_cases hx : c = 42 ∧ bare t = true
          · obtain ⟨rfl, hb⟩ := hx
            rw [hb] at hbt
            exact .inl ⟨3, by omega, ex_bare pre post base R P0 t h16 hbt, by rw [map_snoc, dfF_snoc]; exact d_wrong pre post 42 3 (base.map dfF) _ _ _ true hr h16 (.inr ⟨rfl, rfl, hb, rfl⟩)⟩
          · have hd := d_rep pre post c (base.map dfF) (bareE R) (bareA P0) (bare t) hr h16 hx (by omega)
            have key : ∀ (u : Tr) (k : Nat), (u = .maybe t true ∨ u = .maybe t false ∨ ((u = .many t true ∨ u = .many t false) ∧ bare t = false)) → 1 ≤ k → k ≤ post.length + 1 → Stt base R (P0 ++ [u]) false (pre.length + k) ∧ bare u = true := fun u k hu k1 k2 => by
              have hwt := hwP t (by simp)
              have hu' : wf u = true ∧ hi u = hi t + 1 ∧ sz u = sz t + 1 ∧ bare u = true := by
                rcases hu with rfl | rfl | ⟨rfl | rfl, hb⟩
                · exact ⟨by rw [wf]; exact hwt, by rw [hi], by rw [sz], by rw [bare]⟩
                · exact ⟨by rw [wf]; exact hwt, by rw [hi], by rw [sz], by rw [bare]⟩
                · exact ⟨by rw [wf, hwt, hb]; rfl, by rw [hi], by rw [sz], by rw [bare]⟩
                · exact ⟨by rw [wf, hwt, hb]; rfl, by rw [hi], by rw [sz], by rw [bare]⟩
              refine ⟨⟨hbl, st.ob, ⟨st.of.1, fun x hx => ?_⟩, by simp, ?_⟩, hu'.2.2.2⟩
              · rcases List.mem_append.mp hx with hx | hx
                · exact st.of.2 x (List.mem_append_left _ hx)
                · rw [List.mem_singleton.mp hx]; exact ⟨hu'.1, by omega⟩
              · simp only [mf, szL_snoc, hu'.2.2.1, List.length_append, List.length_singleton] at hms ⊢
                omega
            have dcon : ∀ (u : Tr), bare u = true → dfF (R, P0 ++ [u]) = (bareE R, bareA P0, true) := fun u hu => by rw [dfF_snoc, hu]
            by_cases h33 : post.take 1 = [33]
            · obtain ⟨post', rfl⟩ : ∃ post', post = 33 :: post' := by
                cases post with
                | nil => simp at h33
                | cons x y => simp at h33; exact ⟨y, by rw [h33]⟩
              rw [if_pos h33] at hd
              rcases hr with rfl | rfl
              · have hb : bare t = false := by cases h : bare t with
                  | false => rfl
                  | true => exact absurd ⟨rfl, h⟩ hx
                rw [hb] at hbt
                obtain ⟨s2, b2⟩ := key (.many t false) 2 (.inr (.inr ⟨.inr rfl, hb⟩)) (by omega) (by simp)
                refine Jo.step (step_many' pre post' base R P0 t h16 (by omega) (by omega) hbt) ?_ (next 2 base R _ false (by omega) (by simp) s2)
                rw [map_snoc, map_snoc, dfF_snoc, dcon _ b2]
                exact hd
              · obtain ⟨s2, b2⟩ := key (.maybe t false) 2 (.inr (.inl rfl)) (by omega) (by simp)
                refine Jo.step (step_maybe' pre post' base R P0 t h16 (by omega) (by omega)) ?_ (next 2 base R _ false (by omega) (by simp) s2)
                rw [map_snoc, map_snoc, dfF_snoc, dcon _ b2]
                exact hd
            · rw [if_neg h33] at hd
              rcases hr with rfl | rfl
              · have hb : bare t = false := by cases h : bare t with
                  | false => rfl
                  | true => exact absurd ⟨rfl, h⟩ hx
                rw [hb] at hbt
                obtain ⟨s2, b2⟩ := key (.many t true) 1 (.inr (.inr ⟨.inl rfl, hb⟩)) (by omega) (by omega)
                refine Jo.step (step_many pre post base R P0 t h16 (by omega) (by omega) h33 hbt) ?_ (next 1 base R _ false (by omega) (by omega) s2)
                rw [map_snoc, map_snoc, dfF_snoc, dcon _ b2]
                exact hd
              · obtain ⟨s2, b2⟩ := key (.maybe t true) 1 (.inl rfl) (by omega) (by omega)
                refine Jo.step (step_maybe pre post base R P0 t h16 (by omega) (by omega) h33) ?_ (next 1 base R _ false (by omega) (by omega) s2)
                rw [map_snoc, map_snoc, dfF_snoc, dcon _ b2]
                exact hd
      · have hs : c ≠ 40 ∧ c ≠ 41 ∧ c ≠ 124 ∧ c ≠ 42 ∧ c ≠ 63 := ⟨h40, h41, h124, fun h => hr (.inl h), fun h => hr (.inr h)⟩
        have hpc := piece_all c post pre (pre ++ c :: post) rfl (by omega)
        have hd := d_piece pre post c (base.map dfF) (bareE R) (bareA P.dropLast) (lstB P) r hs (by omega) (by omega)
        cases hq : pieceT c post with
        | inl x =>
          rw [hq] at hpc hd
          simp only at hpc hd
          exact .inl ⟨x, pieceT_ex hq, ex_piece pre post c x base R P r h16 hs hpc, by rw [map_snoc]; exact hd⟩
        | inr q =>
          rw [hq] at hpc hd
          simp only at hpc hd
          obtain ⟨w1, w2, w3, w4, w5, w6⟩ := pieceT_ok hq (by omega) (fun x hx => ht x (List.mem_append_right _ hx))
          rw [dl_all] at hd
          refine Jo.step (step_piece pre post c base R P r q.1 q.2 h16 (by omega) (by omega) hs hpc) ?_ (next q.2 base R (P ++ [q.1]) true w5 w6 ⟨hbl, st.ob, ⟨st.of.1, fun x hx => ?_⟩, fun _ => ⟨P, q.1, rfl, by omega⟩, ?_⟩)
          · rw [map_snoc, map_snoc, dfF_snoc, w4]
            exact hd
          · rcases List.mem_append.mp hx with hx | hx
            · exact st.of.2 x hx
            · rw [List.mem_singleton.mp hx]; exact ⟨w1, by omega⟩
          · simp only [mf, szL_snoc, w3, List.length_append, List.length_singleton] at hms ⊢
            omega
/-- what is refused is refused alike; what isn't is a tree -/
theorem refuse (p : List Nat) (hl : p.length ≤ 1000) (ht : ∀ c ∈ p, c ∈ tbl) :
    (∃ c, c < 5 ∧ f_p_read [.str p] = .exc c ∧ f_l_due [.str p] = .ok (.str (nmE c))) ∨ (∃ t, wf t = true ∧ hi t ≤ 95 ∧ sz t ≤ 2001 ∧ f_p_read [.str p] = .ok (td t) ∧ f_l_due [.str p] = .ok (.str [])) := by
  have st : Stt [] [] [] false ([] : List Nat).length := ⟨by simp, fun i f h => by simp at h, ⟨by simp, by simp⟩, by simp, by simp [mF, mf, szL]⟩
  rcases joint p.length [] p p [] [] [] false rfl (Nat.le_refl _) hl ht st with ⟨c, hc, e, d⟩ | ⟨base, R, P, r, s, e, d⟩
  · exact .inl ⟨c, hc, read_ex e, due_ex d⟩
  · have hde := due_end (by omega) d (by simp; have := s.bl; omega)
    obtain ⟨sR, sP, sM⟩ := s.lens hl
    cases base with
    | nil =>
      have hr := read_of (by omega) e (by omega)
      have hof := s.of
      rw [List.length_nil] at hof
      have n1 := mf_nn hof
      simp only at n1
      refine .inr ⟨_, pk_wf (by simp) (fun t ht => ?_) (by simp; omega), ?_, ?_, hr, ?_⟩
      · rcases List.mem_append.mp ht with ht | ht
        · exact (hof.1 t ht).1
        · rw [List.mem_singleton.mp ht]; exact rw_wf (fun t ht => (hof.2 t ht).1) (by omega)
      · have a1 := pk_hi (R ++ [rw' P])
        have a2 := hiL_bd (P := P) (m := 0) (k := 92) (fun t ht => by have := (hof.2 t ht).2; omega) (by omega)
        have a3 := hiL_bd (P := R ++ [rw' P]) (m := 0) (k := 94) (fun t ht => by
          rcases List.mem_append.mp ht with ht | ht
          · have := (hof.1 t ht).2; omega
          · rw [List.mem_singleton.mp ht]; have := rw_hi P; omega) (by omega)
        omega
      · rw [pk_sz (by simp), szL_snoc, rw_sz]; simp; omega
      · rw [hde, if_neg (by simp)]
    | cons f base =>
      have h1 : 1 < ((f :: base) ++ [(R, P)]).length := by simp
      refine .inl ⟨0, by omega, read_open (by omega) e h1, ?_⟩
      rw [hde, if_pos (by simp)]
end Mt
end
section
namespace Mt
open Mini Bd
/-! nets and what they take -/
inductive St where
  | fin | take (b : Bool) (z : List Nat) (n : Nat) | part (a b : Nat)
def takes (b : Bool) (z : List Nat) (c : Nat) : Bool := decide (decide (c ∈ z) = b)
/-- from state s at place p the net reaches its end at the places xs, best first (h: a bound on the height of the tree of tries) -/
inductive LN (N : List St) (w : List Nat) : Nat → Nat → Nat → List Nat → Prop where
  | fin {h s p : Nat} : N[s]? = some .fin → LN N w h s p [p]
  | go {h s p n : Nat} {b : Bool} {z : List Nat} {c : Nat} {xs : List Nat} : N[s]? = some (.take b z n) → w[p]? = some c → takes b z c = true → LN N w h n (p + 1) xs → LN N w (h + 1) s p xs
  | no {h s p n : Nat} {b : Bool} {z : List Nat} : N[s]? = some (.take b z n) → (∀ c, w[p]? = some c → takes b z c = false) → LN N w h s p []
  | part {h s p a b : Nat} {xs ys : List Nat} : N[s]? = some (.part a b) → LN N w h a p xs → LN N w h b p ys → LN N w (h + 1) s p (xs ++ ys)
theorem LN.mono {N : List St} {w : List Nat} {h h' s p : Nat} {xs : List Nat} (d : LN N w h s p xs) (hh : h ≤ h') : LN N w h' s p xs := by
  induction d generalizing h' with
  | fin e => exact .fin e
  | go e1 e2 e3 _ ih =>
    obtain ⟨k, rfl⟩ : ∃ k, h' = k + 1 := ⟨h' - 1, by omega⟩
    exact .go e1 e2 e3 (ih (by omega))
  | no e1 e2 => exact .no e1 e2
  | part e1 _ _ ih1 ih2 =>
    obtain ⟨k, rfl⟩ : ∃ k, h' = k + 1 := ⟨h' - 1, by omega⟩
    exact .part e1 (ih1 (by omega)) (ih2 (by omega))
theorem LN.det {N : List St} {w : List Nat} {h h' s p : Nat} {xs ys : List Nat} (d : LN N w h s p xs) (d' : LN N w h' s p ys) : xs = ys := by
  induction d generalizing h' ys with
  | fin e => cases d' <;> simp_all
  | go e1 e2 e3 d1 ih =>
    cases d' with
    | fin e => simp_all
    | go f1 f2 f3 g => rw [e1] at f1; cases f1; exact ih g
    | no f1 f2 => rw [e1] at f1; cases f1; rw [f2 _ e2] at e3; cases e3
    | part f1 => rw [e1] at f1; cases f1
  | no e1 e2 =>
    cases d' with
    | fin e => simp_all
    | go f1 f2 f3 g => rw [e1] at f1; cases f1; rw [e2 _ f2] at f3; cases f3
    | no f1 f2 => rfl
    | part f1 => rw [e1] at f1; cases f1
  | part e1 d1 d2 ih1 ih2 =>
    cases d' with
    | fin e => simp_all
    | go f1 f2 f3 g => rw [e1] at f1; cases f1
    | no f1 f2 => rw [e1] at f1; cases f1
    | part f1 g1 g2 => rw [e1] at f1; cases f1; rw [ih1 g1, ih2 g2]
def LM (f : Nat → List Nat) (g : Bool) : Nat → Nat → List Nat
  | 0, p => [p]
  | k + 1, p => if g = true then (f p).flatMap (LM f g k) ++ [p] else p :: (f p).flatMap (LM f g k)
mutual
/-- what a tree takes from place p, best first -/
def LT (w : List Nat) : Tr → Nat → List Nat
  | .take b z, p => match w[p]? with
    | some c => if takes b z c = true then [p + 1] else []
    | none => []
  | .row ps, p => LR w ps p
  | .pick ps, p => LP' w ps p
  | .maybe t g, p => if g = true then LT w t p ++ [p] else p :: LT w t p
  | .many t g, p => LM (LT w t) g w.length p
def LR (w : List Nat) : List Tr → Nat → List Nat
  | [], p => [p]
  | t :: ts, p => (LT w t p).flatMap (LR w ts)
def LP' (w : List Nat) : List Tr → Nat → List Nat
  | [], _ => []
  | t :: ts, p => LT w t p ++ LP' w ts p
end
theorem LM_ge {f : Nat → List Nat} {g : Bool} (hf : ∀ p q, q ∈ f p → p < q) : ∀ k p q, q ∈ LM f g k p → p ≤ q
  | 0, p, q, h => by simp [LM] at h; omega
  | k + 1, p, q, h => by
    rw [LM] at h
    have : q ∈ (f p).flatMap (LM f g k) ∨ q = p := by
      split at h
      · rcases List.mem_append.mp h with h | h
        · exact .inl h
        · exact .inr (List.mem_singleton.mp h)
      · rcases List.mem_cons.mp h with h | h
        · exact .inr h
        · exact .inl h
    rcases this with h | rfl
    · obtain ⟨r, hr, hq⟩ := List.mem_flatMap.mp h
      have := hf p r hr
      have := LM_ge hf k r q hq
      omega
    · omega
theorem LM_le {f : Nat → List Nat} {g : Bool} {m : Nat} (hf : ∀ p q, q ∈ f p → q ≤ m) : ∀ k p q, p ≤ m → q ∈ LM f g k p → q ≤ m
  | 0, p, q, hp, h => by simp [LM] at h; omega
  | k + 1, p, q, hp, h => by
    rw [LM] at h
    have : q ∈ (f p).flatMap (LM f g k) ∨ q = p := by
      split at h
      · rcases List.mem_append.mp h with h | h
        · exact .inl h
        · exact .inr (List.mem_singleton.mp h)
      · rcases List.mem_cons.mp h with h | h
        · exact .inr h
        · exact .inl h
    rcases this with h | rfl
    · obtain ⟨r, hr, hq⟩ := List.mem_flatMap.mp h
      exact LM_le hf k r q (hf p r hr) hq
    · exact hp
theorem LT_ge_aux (w : List Nat) : ∀ n t, hi t ≤ n → wf t = true → (∀ p q, q ∈ LT w t p → p ≤ q) ∧ (bare t = false → ∀ p q, q ∈ LT w t p → p < q) ∧ (∀ p q, p ≤ w.length → q ∈ LT w t p → q ≤ w.length) := by
  intro n
  induction n with
  | zero => intro t h; cases t <;> rw [hi] at h <;> omega
  | succ n ih =>
    have row : ∀ ps : List Tr, hiL ps ≤ n → (∀ t ∈ ps, wf t = true) → (∀ p q, q ∈ LR w ps p → p ≤ q) ∧ (bareA ps = false → ∀ p q, q ∈ LR w ps p → p < q) ∧ (∀ p q, p ≤ w.length → q ∈ LR w ps p → q ≤ w.length) := by
      intro ps
      induction ps with
      | nil => intro _ _; refine ⟨fun p q h => by simp [LR] at h; omega, fun h => by simp [bareA] at h, fun p q hp h => by simp [LR] at h; omega⟩
      | cons t ts ih2 =>
        intro h hw
        rw [hiL] at h
        obtain ⟨a1, a2, a3⟩ := ih t (by omega) (hw t List.mem_cons_self)
        obtain ⟨b1, b2, b3⟩ := ih2 (by omega) fun x hx => hw x (List.mem_cons_of_mem _ hx)
        refine ⟨fun p q hq => ?_, fun hb p q hq => ?_, fun p q hp hq => ?_⟩
        · rw [LR] at hq
          obtain ⟨r, hr, hq⟩ := List.mem_flatMap.mp hq
          have := a1 p r hr; have := b1 r q hq; omega
        · rw [LR] at hq
          obtain ⟨r, hr, hq⟩ := List.mem_flatMap.mp hq
          rw [bareA, Bool.and_eq_false_iff] at hb
          have := a1 p r hr; have := b1 r q hq
          rcases hb with hb | hb
          · have := a2 hb p r hr; omega
          · have := b2 hb r q hq; omega
        · rw [LR] at hq
          obtain ⟨r, hr, hq⟩ := List.mem_flatMap.mp hq
          exact b3 r q (a3 p r hp hr) hq
    have pick : ∀ ps : List Tr, hiL ps ≤ n → (∀ t ∈ ps, wf t = true) → (∀ p q, q ∈ LP' w ps p → p ≤ q) ∧ (bareE ps = false → ∀ p q, q ∈ LP' w ps p → p < q) ∧ (∀ p q, p ≤ w.length → q ∈ LP' w ps p → q ≤ w.length) := by
      intro ps
      induction ps with
      | nil => intro _ _; refine ⟨fun p q h => by simp [LP'] at h, fun _ p q h => by simp [LP'] at h, fun p q hp h => by simp [LP'] at h⟩
      | cons t ts ih2 =>
        intro h hw
        rw [hiL] at h
        obtain ⟨a1, a2, a3⟩ := ih t (by omega) (hw t List.mem_cons_self)
        obtain ⟨b1, b2, b3⟩ := ih2 (by omega) fun x hx => hw x (List.mem_cons_of_mem _ hx)
        refine ⟨fun p q hq => ?_, fun hb p q hq => ?_, fun p q hp hq => ?_⟩
        · rw [LP'] at hq
          rcases List.mem_append.mp hq with hq | hq
          · exact a1 p q hq
          · exact b1 p q hq
        · rw [LP'] at hq
          rw [bareE, Bool.or_eq_false_iff] at hb
          rcases List.mem_append.mp hq with hq | hq
          · exact a2 hb.1 p q hq
          · exact b2 hb.2 p q hq
        · rw [LP'] at hq
          rcases List.mem_append.mp hq with hq | hq
          · exact a3 p q hp hq
          · exact b3 p q hp hq
    intro t h hw
    cases t with
    | take b z =>
      have key : ∀ p q, q ∈ LT w (.take b z) p → q = p + 1 ∧ p < w.length := fun p q hq => by
        rw [LT] at hq
        split at hq
        · rename_i c hc
          split at hq
          · exact ⟨List.mem_singleton.mp hq, (List.getElem?_eq_some_iff.mp hc).1⟩
          · simp at hq
        · simp at hq
      exact ⟨fun p q hq => by have := key p q hq; omega, fun _ p q hq => by have := key p q hq; omega, fun p q _ hq => by have := key p q hq; omega⟩
    | row ps =>
      rw [hi] at h
      have := row ps (by omega) (wf_row hw).2
      simpa only [LT, bare] using this
    | pick ps =>
      rw [hi] at h
      have := pick ps (by omega) (wf_pick hw).2
      simpa only [LT, bare] using this
    | maybe t g =>
      rw [hi] at h
      obtain ⟨a1, a2, a3⟩ := ih t (by omega) (wf_maybe hw)
      have key : ∀ p q, q ∈ LT w (.maybe t g) p → q ∈ LT w t p ∨ q = p := fun p q hq => by
        rw [LT] at hq
        split at hq
        · rcases List.mem_append.mp hq with hq | hq
          · exact .inl hq
          · exact .inr (List.mem_singleton.mp hq)
        · rcases List.mem_cons.mp hq with hq | hq
          · exact .inr hq
          · exact .inl hq
      refine ⟨fun p q hq => ?_, fun hb => by simp [bare] at hb, fun p q hp hq => ?_⟩
      · rcases key p q hq with hq | rfl
        · exact a1 p q hq
        · omega
      · rcases key p q hq with hq | rfl
        · exact a3 p q hp hq
        · exact hp
    | many t g =>
      rw [hi] at h
      have hw2 := wf_many hw
      obtain ⟨a1, a2, a3⟩ := ih t (by omega) hw2.1
      have a2 := a2 hw2.2
      refine ⟨fun p q hq => ?_, fun hb => by simp [bare] at hb, fun p q hp hq => ?_⟩
      · rw [LT] at hq; exact LM_ge a2 _ p q hq
      · rw [LT] at hq
        have aux : ∀ k p q, p ≤ w.length → q ∈ LM (LT w t) g k p → q ≤ w.length := by
          intro k
          induction k with
          | zero => intro p q hp h; simp [LM] at h; omega
          | succ k ihk =>
            intro p q hp h
            rw [LM] at h
            have : q ∈ (LT w t p).flatMap (LM (LT w t) g k) ∨ q = p := by
              split at h
              · rcases List.mem_append.mp h with h | h
                · exact .inl h
                · exact .inr (List.mem_singleton.mp h)
              · rcases List.mem_cons.mp h with h | h
                · exact .inr h
                · exact .inl h
            rcases this with h | rfl
            · obtain ⟨r, hr, hq⟩ := List.mem_flatMap.mp h
              exact ihk r q (a3 p r hp hr) hq
            · exact hp
        exact aux _ p q hp hq
theorem LT_gt {w : List Nat} {t : Tr} (hw : wf t = true) (hb : bare t = false) : ∀ p q, q ∈ LT w t p → p < q := (LT_ge_aux w _ t (Nat.le_refl _) hw).2.1 hb
theorem LT_le {w : List Nat} {t : Tr} (hw : wf t = true) : ∀ p q, p ≤ w.length → q ∈ LT w t p → q ≤ w.length := (LT_ge_aux w _ t (Nat.le_refl _) hw).2.2
theorem LM_enough {w : List Nat} {f : Nat → List Nat} {g : Bool} (h1 : ∀ p q, q ∈ f p → p < q) (h2 : ∀ p q, p ≤ w.length → q ∈ f p → q ≤ w.length) : ∀ k k' p, w.length ≤ k + p → w.length ≤ k' + p → p ≤ w.length → LM f g k p = LM f g k' p := by
  intro k
  induction k with
  | zero =>
    intro k' p hk hk' hp
    have he : f p = [] := by
      cases hf : f p with
      | nil => rfl
      | cons q qs =>
        have hq : q ∈ f p := by rw [hf]; exact List.mem_cons_self
        have := h1 p q hq
        have := h2 p q hp hq
        omega
    cases k' with
    | zero => rfl
    | succ k' => rw [LM, LM, he]; simp
  | succ k ih =>
    intro k' p hk hk' hp
    cases k' with
    | zero =>
      have he : f p = [] := by
        cases hf : f p with
        | nil => rfl
        | cons q qs =>
          have hq : q ∈ f p := by rw [hf]; exact List.mem_cons_self
          have := h1 p q hq
          have := h2 p q hp hq
          omega
      rw [LM, LM, he]; simp
    | succ k' =>
      have : (f p).flatMap (LM f g k) = (f p).flatMap (LM f g k') := by
        have aux : ∀ xs : List Nat, (∀ q ∈ xs, p < q ∧ q ≤ w.length) → xs.flatMap (LM f g k) = xs.flatMap (LM f g k') := by
          intro xs
          induction xs with
          | nil => intro _; rfl
          | cons q qs ihq =>
            intro hq
            have h3 := hq q List.mem_cons_self
            rw [List.flatMap_cons, List.flatMap_cons, ih k' q (by omega) (by omega) h3.2, ihq fun r hr => hq r (List.mem_cons_of_mem _ hr)]
        exact aux _ fun q hq => ⟨h1 p q hq, h2 p q hp hq⟩
      rw [LM, LM, this]
/-- one more round -/
theorem LT_many (w : List Nat) (t : Tr) (g : Bool) (hw : wf (.many t g) = true) (p : Nat) (hp : p ≤ w.length) :
    LT w (.many t g) p = if g = true then (LT w t p).flatMap (LT w (.many t g)) ++ [p] else p :: (LT w t p).flatMap (LT w (.many t g)) := by
  have hw2 := wf_many hw
  have h1 := LT_gt (w := w) hw2.1 hw2.2
  have h2 := LT_le (w := w) hw2.1
  have e : LT w (.many t g) = LM (LT w t) g w.length := by funext q; rw [LT]
  rw [e, LM_enough (g := g) h1 h2 w.length (w.length + 1) p (by omega) (by omega) hp, LM]
end Mt
end
section
namespace Mt
open Mini Bd
def prt (g : Bool) (e th : Nat) : St := if g = true then .part e th else .part th e
def chain : List Nat → List (Option St) → Nat × List (Option St)
  | [], s => (0, s)
  | [e], s => (e, s)
  | e :: f :: es, s => ((chain (f :: es) s).2.length, (chain (f :: es) s).2 ++ [some (.part e (chain (f :: es) s).1)])
mutual
/-- how the net of a tree is built onto what stands -/
def bld : Tr → Nat → List (Option St) → Nat × List (Option St)
  | .take b z, th, s => (s.length, s ++ [some (.take b z th)])
  | .row ps, th, s => bldR ps th s
  | .pick ps, th, s => chain (bldP ps th s).1 (bldP ps th s).2
  | .maybe t g, th, s => (s.length, (bld t th (s ++ [none])).2.set s.length (some (prt g (bld t th (s ++ [none])).1 th)))
  | .many t g, th, s => (s.length, (bld t s.length (s ++ [none])).2.set s.length (some (prt g (bld t s.length (s ++ [none])).1 th)))
def bldR : List Tr → Nat → List (Option St) → Nat × List (Option St)
  | [], th, s => (th, s)
  | t :: ts, th, s => bld t (bldR ts th s).1 (bldR ts th s).2
def bldP : List Tr → Nat → List (Option St) → List Nat × List (Option St)
  | [], _, s => ([], s)
  | t :: ts, th, s => ((bld t th s).1 :: (bldP ts th (bld t th s).2).1, (bldP ts th (bld t th s).2).2)
end
/-- s' goes on from s; what is new has no gap -/
structure Grow (s s' : List (Option St)) : Prop where
  le : s.length ≤ s'.length
  old : ∀ i, i < s.length → s'[i]? = s[i]?
  new : ∀ i, s.length ≤ i → i < s'.length → ∃ x, s'[i]? = some (some x)
theorem Grow.refl (s : List (Option St)) : Grow s s := ⟨Nat.le_refl _, fun _ _ => rfl, fun i h1 h2 => by omega⟩
theorem Grow.trans {a b c : List (Option St)} (h1 : Grow a b) (h2 : Grow b c) : Grow a c := by
  refine ⟨Nat.le_trans h1.le h2.le, fun i hi => ?_, fun i h3 h4 => ?_⟩
  · rw [h2.old i (by have := h1.le; omega), h1.old i hi]
  · by_cases h5 : i < b.length
    · rw [h2.old i h5]; exact h1.new i h3 h5
    · exact h2.new i (by omega) h4
theorem Grow.add (s : List (Option St)) (x : St) : Grow s (s ++ [some x]) := by
  refine ⟨by simp, fun i hi => by rw [List.getElem?_append_left hi], fun i h1 h2 => ?_⟩
  simp at h2
  have : i = s.length := by omega
  subst this
  exact ⟨x, by simp⟩
theorem Grow.hole {s s1 : List (Option St)} (h : Grow (s ++ [none]) s1) (x : St) : Grow s (s1.set s.length (some x)) := by
  have hl := h.le
  rw [List.length_append, List.length_singleton] at hl
  refine ⟨by rw [List.length_set]; omega, fun i hi => ?_, fun i h1 h2 => ?_⟩
  · rw [List.getElem?_set_ne (by omega), h.old i (by simp; omega), List.getElem?_append_left hi]
  · rw [List.length_set] at h2
    by_cases h3 : i = s.length
    · subst h3
      exact ⟨x, by rw [List.getElem?_set_self (by omega)]⟩
    · rw [List.getElem?_set_ne (by omega)]
      exact h.new i (by simp; omega) h2
theorem chain_grow : ∀ (es : List Nat) (s : List (Option St)), Grow s (chain es s).2
  | [], s => Grow.refl s
  | [e], s => Grow.refl s
  | e :: f :: es, s => by
    rw [chain]
    exact (chain_grow (f :: es) s).trans (Grow.add _ _)
theorem bld_grow_aux : ∀ n t, hi t ≤ n → ∀ th s, Grow s (bld t th s).2 := by
  intro n
  induction n with
  | zero => intro t h; cases t <;> rw [hi] at h <;> omega
  | succ n ih =>
    have row : ∀ ps : List Tr, hiL ps ≤ n → ∀ th s, Grow s (bldR ps th s).2 := by
      intro ps
      induction ps with
      | nil => intro _ th s; rw [bldR]; exact Grow.refl s
      | cons t ts ih2 =>
        intro h th s
        rw [hiL] at h
        rw [bldR]
        exact (ih2 (by omega) th s).trans (ih t (by omega) _ _)
    have pick : ∀ ps : List Tr, hiL ps ≤ n → ∀ th s, Grow s (bldP ps th s).2 := by
      intro ps
      induction ps with
      | nil => intro _ th s; rw [bldP]; exact Grow.refl s
      | cons t ts ih2 =>
        intro h th s
        rw [hiL] at h
        rw [bldP]
        exact (ih t (by omega) _ _).trans (ih2 (by omega) _ _)
    intro t h th s
    cases t with
    | take b z => rw [bld]; exact Grow.add _ _
    | row ps => rw [hi] at h; rw [bld]; exact row ps (by omega) th s
    | pick ps => rw [hi] at h; rw [bld]; exact (pick ps (by omega) th s).trans (chain_grow _ _)
    | maybe t g => rw [hi] at h; rw [bld]; exact (ih t (by omega) _ _).hole _
    | many t g => rw [hi] at h; rw [bld]; exact (ih t (by omega) _ _).hole _
theorem bld_grow (t : Tr) (th : Nat) (s : List (Option St)) : Grow s (bld t th s).2 := bld_grow_aux _ t (Nat.le_refl _) th s
theorem bldR_grow : ∀ (ps : List Tr) (th : Nat) (s : List (Option St)), Grow s (bldR ps th s).2
  | [], th, s => by rw [bldR]; exact Grow.refl s
  | t :: ts, th, s => by rw [bldR]; exact (bldR_grow ts th s).trans (bld_grow _ _ _)
theorem bldP_grow : ∀ (ps : List Tr) (th : Nat) (s : List (Option St)), Grow s (bldP ps th s).2
  | [], th, s => by rw [bldP]; exact Grow.refl s
  | t :: ts, th, s => by rw [bldP]; exact (bld_grow _ _ _).trans (bldP_grow ts _ _)
def LNe (N : List St) (w : List Nat) (s p : Nat) (xs : List Nat) : Prop := ∃ h, LN N w h s p xs
theorem LNe.part {N : List St} {w : List Nat} {s p a b : Nat} {xs ys : List Nat} (h : N[s]? = some (.part a b)) (h1 : LNe N w a p xs) (h2 : LNe N w b p ys) : LNe N w s p (xs ++ ys) := by
  obtain ⟨m, h1⟩ := h1
  obtain ⟨n, h2⟩ := h2
  exact ⟨max m n + 1, .part h (h1.mono (by omega)) (h2.mono (by omega))⟩
theorem LNe.prt {N : List St} {w : List Nat} {s p a b : Nat} {g : Bool} {xs ys : List Nat} (h : N[s]? = some (prt g a b)) (h1 : LNe N w a p xs) (h2 : LNe N w b p ys) : LNe N w s p (if g = true then xs ++ ys else ys ++ xs) := by
  cases g with
  | true => exact LNe.part h h1 h2
  | false => exact LNe.part h h2 h1
/-- N holds what is filled in s from lo on -/
def Agr (N : List St) (lo : Nat) (s : List (Option St)) : Prop := ∀ i x, lo ≤ i → s[i]? = some (some x) → N[i]? = some x
theorem Agr.back {N : List St} {lo : Nat} {s s' : List (Option St)} (h : Agr N lo s') (g : Grow s s') : Agr N lo s := fun i x hi he => by
  have : i < s.length := (List.getElem?_eq_some_iff.mp he).1
  exact h i x hi (by rw [g.old i this]; exact he)
theorem Agr.up {N : List St} {lo lo' : Nat} {s : List (Option St)} (h : Agr N lo s) (hl : lo ≤ lo') : Agr N lo' s := fun i x hi he => h i x (by omega) he
theorem flat_one {α β : Type} (xs : List α) (f : α → List β) (p : α) : (xs ++ [p]).flatMap f = xs.flatMap f ++ f p := by simp
theorem bld_LN_aux (N : List St) (w : List Nat) : ∀ n t, hi t ≤ n → wf t = true → ∀ th s (k : Nat → List Nat), Agr N s.length (bld t th s).2 → ∀ p, p ≤ w.length → (∀ q ∈ LT w t p, LNe N w th q (k q)) → LNe N w (bld t th s).1 p ((LT w t p).flatMap k) := by
  intro n
  induction n with
  | zero => intro t h; cases t <;> rw [hi] at h <;> omega
  | succ n ih =>
    have row : ∀ ps : List Tr, hiL ps ≤ n → (∀ t ∈ ps, wf t = true) → ∀ th s (k : Nat → List Nat), Agr N s.length (bldR ps th s).2 → ∀ p, p ≤ w.length → (∀ q ∈ LR w ps p, LNe N w th q (k q)) → LNe N w (bldR ps th s).1 p ((LR w ps p).flatMap k) := by
      intro ps
      induction ps with
      | nil => intro _ _ th s k _ p _ hk; rw [LR] at hk ⊢; rw [bldR]; simpa using hk p List.mem_cons_self
      | cons t ts ih2 =>
        intro h hw th s k ha p hp hk
        rw [hiL] at h
        rw [bldR] at ha ⊢
        rw [LR] at hk ⊢
        have g1 := bldR_grow ts th s
        rw [List.flatMap_assoc]
        refine ih t (by omega) (hw t List.mem_cons_self) _ _ _ (ha.up g1.le) p hp fun q hq => ?_
        refine ih2 (by omega) (fun x hx => hw x (List.mem_cons_of_mem _ hx)) th s k (ha.back (bld_grow _ _ _)) q (LT_le (hw t List.mem_cons_self) p q hp hq) fun r hr => hk r (List.mem_flatMap.mpr ⟨q, hq, hr⟩)
    have pick : ∀ ps : List Tr, hiL ps ≤ n → (∀ t ∈ ps, wf t = true) → ∀ th s (k : Nat → List Nat), Agr N s.length (bldP ps th s).2 → ∀ p, p ≤ w.length → (∀ q ∈ LP' w ps p, LNe N w th q (k q)) →
        ∃ xss : List (List Nat), xss.length = (bldP ps th s).1.length ∧ (∀ (i : Nat) e xs, (bldP ps th s).1[i]? = some e → xss[i]? = some xs → LNe N w e p xs) ∧ xss.flatten = (LP' w ps p).flatMap k := by
      intro ps
      induction ps with
      | nil => intro _ _ th s k _ p _ hk; refine ⟨[], by rw [bldP]; rfl, fun i e xs h1 h2 => by simp at h2, by rw [LP']; rfl⟩
      | cons t ts ih2 =>
        intro h hw th s k ha p hp hk
        rw [hiL] at h
        rw [bldP] at ha ⊢
        rw [LP'] at hk ⊢
        have g1 := bld_grow t th s
        obtain ⟨xss, h1, h2, h3⟩ := ih2 (by omega) (fun x hx => hw x (List.mem_cons_of_mem _ hx)) th (bld t th s).2 k (ha.up g1.le) p hp fun q hq => hk q (List.mem_append_right _ hq)
        have h4 := ih t (by omega) (hw t List.mem_cons_self) th s k (ha.back (bldP_grow _ _ _)) p hp fun q hq => hk q (List.mem_append_left _ hq)
        refine ⟨_ :: xss, by simp [h1], fun i e xs q1 q2 => ?_, by rw [List.flatten_cons, h3, List.flatMap_append]⟩
        cases i with
        | zero => simp at q1 q2; rw [← q1, ← q2]; exact h4
        | succ i => exact h2 i e xs (by simpa using q1) (by simpa using q2)
    have chn : ∀ (es : List Nat) (xss : List (List Nat)) (s : List (Option St)) (p : Nat), es ≠ [] → xss.length = es.length → (∀ (i : Nat) e xs, es[i]? = some e → xss[i]? = some xs → LNe N w e p xs) → Agr N s.length (chain es s).2 → LNe N w (chain es s).1 p xss.flatten := by
      intro es
      induction es with
      | nil => intro xss s p h; exact absurd rfl h
      | cons e es ihc =>
        intro xss s p _ hl h ha
        cases xss with
        | nil => simp at hl
        | cons xs xss =>
          cases es with
          | nil =>
            cases xss with
            | cons _ _ => simp at hl
            | nil => simpa [chain] using h 0 e xs rfl rfl
          | cons f es =>
            rw [chain] at ha ⊢
            have g := chain_grow (f :: es) s
            have h2 := ihc xss s p (by simp) (by simpa using hl) (fun i e' xs' q1 q2 => h (i + 1) e' xs' (by simpa using q1) (by simpa using q2)) (ha.back (Grow.add _ _))
            rw [List.flatten_cons]
            refine LNe.part (ha _ _ ?_ (by simp)) (h 0 e xs rfl rfl) h2
            have := g.le; omega
    intro t h hw th s k ha p hp hk
    cases t with
    | take b z =>
      rw [bld] at ha ⊢
      have hN := ha s.length (.take b z th) (Nat.le_refl _) (by simp)
      rw [LT] at hk ⊢
      cases hc : w[p]? with
      | none => exact ⟨0, .no hN fun c h => by rw [hc] at h; cases h⟩
      | some c =>
        rw [hc] at hk
        by_cases ht : takes b z c = true
        · simp only [ht, if_true] at hk ⊢
          obtain ⟨m, hm⟩ := hk (p + 1) List.mem_cons_self
          exact ⟨m + 1, by simpa using LN.go hN hc ht hm⟩
        · simp only [ht]
          exact ⟨0, .no hN fun c' h => by rw [hc] at h; cases h; simpa using ht⟩
    | row ps =>
      rw [hi] at h
      rw [bld] at ha ⊢
      rw [LT] at hk ⊢
      exact row ps (by omega) (wf_row hw).2 th s k ha p hp hk
    | pick ps =>
      rw [hi] at h
      rw [bld] at ha ⊢
      rw [LT] at hk ⊢
      have g1 := bldP_grow ps th s
      obtain ⟨xss, h1, h2, h3⟩ := pick ps (by omega) (wf_pick hw).2 th s k (ha.back (chain_grow _ _)) p hp hk
      rw [← h3]
      refine chn _ xss _ p ?_ h1 h2 (ha.up g1.le)
      have h2 := (wf_pick hw).1.1
      cases ps with
      | nil => simp at h2
      | cons _ _ => rw [bldP]; simp
    | maybe t g =>
      rw [hi] at h
      rw [bld] at ha ⊢
      have g1 := bld_grow t th (s ++ [none])
      have hl := g1.le
      rw [List.length_append, List.length_singleton] at hl
      have hN := ha s.length _ (Nat.le_refl _) (by rw [List.getElem?_set_self (by omega)])
      have ha1 : Agr N (s ++ [none]).length (bld t th (s ++ [none])).2 := fun i x hi he => by
        rw [List.length_append, List.length_singleton] at hi
        exact ha i x (by omega) (by rw [List.getElem?_set_ne (by omega)]; exact he)
      have e : LT w (.maybe t g) p = if g = true then LT w t p ++ [p] else p :: LT w t p := by rw [LT]
      have hk' : ∀ q ∈ LT w t p, LNe N w th q (k q) := fun q hq => hk q (by rw [e]; split <;> simp [hq])
      have hkp : LNe N w th p (k p) := hk p (by rw [e]; split <;> simp)
      have := LNe.prt hN (ih t (by omega) (wf_maybe hw) th _ k ha1 p hp hk') hkp
      rw [e]
      cases g <;> simpa using this
    | many t g =>
      rw [hi] at h
      rw [bld] at ha ⊢
      have hw2 := wf_many hw
      have g1 := bld_grow t s.length (s ++ [none])
      have hl := g1.le
      rw [List.length_append, List.length_singleton] at hl
      have hN := ha s.length _ (Nat.le_refl _) (by rw [List.getElem?_set_self (by omega)])
      have ha1 : Agr N (s ++ [none]).length (bld t s.length (s ++ [none])).2 := fun i x hi he => by
        rw [List.length_append, List.length_singleton] at hi
        exact ha i x (by omega) (by rw [List.getElem?_set_ne (by omega)]; exact he)
      have main : ∀ m p, w.length ≤ m + p → p ≤ w.length → (∀ q ∈ LT w (.many t g) p, LNe N w th q (k q)) → LNe N w s.length p ((LT w (.many t g) p).flatMap k) := by
        intro m
        induction m with
        | zero =>
          intro p hm hp hk
          have e := LT_many w t g hw p hp
          have hke : LT w t p = [] := by
            cases hf : LT w t p with
            | nil => rfl
            | cons q qs =>
              have hq : q ∈ LT w t p := by rw [hf]; exact List.mem_cons_self
              have := LT_gt hw2.1 hw2.2 p q hq
              have := LT_le hw2.1 p q hp hq
              omega
          have hkp : LNe N w th p (k p) := hk p (by rw [e]; split <;> simp)
          have h0 := ih t (by omega) hw2.1 s.length _ (fun q => (LT w (.many t g) q).flatMap k) ha1 p hp (by rw [hke]; simp)
          have := LNe.prt hN h0 hkp
          rw [e]
          rw [hke] at this ⊢
          cases g <;> simpa using this
        | succ m ihm =>
          intro p hm hp hk
          have e := LT_many w t g hw p hp
          have hkp : LNe N w th p (k p) := hk p (by rw [e]; split <;> simp)
          have h0 := ih t (by omega) hw2.1 s.length _ (fun q => (LT w (.many t g) q).flatMap k) ha1 p hp fun q hq => by
            have h5 := LT_gt hw2.1 hw2.2 p q hq
            have h6 := LT_le hw2.1 p q hp hq
            exact ihm q (by omega) h6 fun r hr => hk r (by
              rw [e]
              have : r ∈ (LT w t p).flatMap (LT w (.many t g)) := List.mem_flatMap.mpr ⟨q, hq, hr⟩
              split <;> simp [this])
          have := LNe.prt hN h0 hkp
          rw [e]
          cases g with
          | true => simpa [List.flatMap_assoc] using this
          | false => simpa [List.flatMap_assoc] using this
      exact main w.length p (by omega) hp hk
/-- the net of a tree takes what the tree takes -/
theorem bld_LN {N : List St} {w : List Nat} {t : Tr} (hw : wf t = true) (th : Nat) (s : List (Option St)) (k : Nat → List Nat) (ha : Agr N s.length (bld t th s).2) (p : Nat) (hp : p ≤ w.length) (hk : ∀ q ∈ LT w t p, LNe N w th q (k q)) : LNe N w (bld t th s).1 p ((LT w t p).flatMap k) :=
  bld_LN_aux N w _ t (Nat.le_refl _) hw th s k ha p hp hk
/-- the whole net -/
def fill (s : List (Option St)) : List St := s.map fun o => o.getD .fin
def netOf (t : Tr) : Nat × List St := ((bld t 0 [some .fin]).1, fill (bld t 0 [some .fin]).2)
theorem net_LN {w : List Nat} {t : Tr} (hw : wf t = true) (p : Nat) (hp : p ≤ w.length) : LNe (netOf t).2 w (netOf t).1 p (LT w t p) := by
  have g := bld_grow t 0 [some .fin]
  have ha : Agr (netOf t).2 1 (bld t 0 [some .fin]).2 := fun i x _ he => by
    unfold netOf fill
    rw [List.getElem?_map, he]; rfl
  have h0 : (netOf t).2[0]? = some .fin := by
    unfold netOf fill
    rw [List.getElem?_map, g.old 0 (by simp)]; rfl
  have := bld_LN (N := (netOf t).2) (w := w) hw 0 [some .fin] (fun q => [q]) ha p hp fun q _ => ⟨0, .fin h0⟩
  have e : (LT w t p).flatMap (fun q => [q]) = LT w t p := by simp
  rw [e] at this
  exact this
end Mt
end
section
namespace Mt
open Mini Bd
def sd : St → D
  | .fin => .tup [.str [101, 110, 100]]
  | .take b z n => .tup [.str [116, 97, 107, 101], .bl b, .str z, .int (n : Int)]
  | .part a b => .tup [.str [112, 97, 114, 116], .int (a : Int), .int (b : Int)]
def osd : Option St → D
  | none => .non
  | some x => sd x
theorem free_osd (o : Option St) : free (osd o) = true := by
  cases o with
  | none => rfl
  | some x => cases x <;> rfl
theorem p_parted (e th : Nat) (g : Bool) : f_p_parted [.int (e : Int), .int (th : Int), .bl g] = .ok (sd (prt g e th)) := by
  cases g <;> simp [f_p_parted, run_eq, b_p_parted, prt, sd]
theorem app_L (ds : List D) (d : D) (h : ds.length < 16777216) (hf : free d = true) : kApp2 0 (.ok (d, [Ob.L ds])) = .ok (.non, [.L (ds ++ [d])]) := by
  rw [kApp2_ok (ds := ds) rfl h hf]; rfl
theorem app_L0 (ds : List D) (a : M) (e : Env) : kApp a e (.ok (.own 0, [Ob.L ds])) = kApp2 0 (a e [.L ds]) := kApp_ok rfl
theorem rz_L (ds : List D) : rz [Ob.L ds] (.own 0) = .lst ds := rz_own rfl
theorem put_L (ds : List D) (k : Nat) (v : D) (h : k < ds.length) (hf : free v = true) : putS [Ob.L ds] 0 (.int (k : Int)) v = some [.L (ds.set k v)] := by
  simp [putS, pos_nat h, hf]
/-- what built has to do for one tree -/
def BuiltOk (φ : F) (t : Tr) : Prop := ∀ (th : Nat) (s : List (Option St)), (bld t th s).2.length ≤ 1000000 → φ [td t, .int (th : Int), .own 0] [.L (s.map osd)] = .ok (.int ((bld t th s).1 : Int), [.L ((bld t th s).2.map osd)])
theorem built_row (φ : F) (e0 x4 : Option D) (ps : List Tr) (hφ : ∀ t ∈ ps, BuiltOk φ t) (th : Nat) (s : List (Option St)) (hB : (bldR ps th s).2.length ≤ 1000000) :
    ∃ x3, forF 3 (sSet 1 (mCallG φ (aCons (mV 3) (aCons (mV 1) (aCons (mV 2) aNil))))) (ps.map td).reverse [e0, some (.int (th : Int)), some (.own 0), none, x4] [.L (s.map osd)] =
      .ok (.nx [e0, some (.int ((bldR ps th s).1 : Int)), some (.own 0), x3, x4], [.L ((bldR ps th s).2.map osd)]) := by
  have hl := forF_inv (i := 3) (b := sSet 1 (mCallG φ (aCons (mV 3) (aCons (mV 1) (aCons (mV 2) aNil)))))
    (fun j e st => j ≤ ps.length ∧ ∃ x3, e = [e0, some (.int ((bldR (ps.drop (ps.length - j)) th s).1 : Int)), some (.own 0), x3, x4] ∧ st = [.L ((bldR (ps.drop (ps.length - j)) th s).2.map osd)])
    (ps.map td).reverse 0 [e0, some (.int (th : Int)), some (.own 0), none, x4] [.L (s.map osd)] ⟨Nat.zero_le _, none, by simp [bldR], by simp [bldR]⟩ (fun k e st d hi' hd => by
      obtain ⟨_, x3, rfl, rfl⟩ := hi'
      rw [Nat.zero_add] at *
      have hk : k < ps.length := by have := (List.getElem?_eq_some_iff.mp hd).1; simpa using this
      have hk2 : ps.length - (k + 1) < ps.length := by omega
      have hd2 : d = td ps[ps.length - (k + 1)] := by
        rw [List.getElem?_reverse (by simpa using hk), List.length_map, List.getElem?_map] at hd
        rw [show ps.length - 1 - k = ps.length - (k + 1) by omega, List.getElem?_eq_getElem hk2] at hd
        simpa using hd.symm
      subst hd2
      have e1 : ps.drop (ps.length - (k + 1)) = ps[ps.length - (k + 1)] :: ps.drop (ps.length - k) := by
        rw [List.drop_eq_getElem_cons hk2, show ps.length - (k + 1) + 1 = ps.length - k by omega]
      have hgr : (bldR (ps.drop (ps.length - (k + 1))) th s).2.length ≤ 1000000 := by
        have key : ∀ m, (bldR (ps.drop m) th s).2.length ≤ (bldR ps th s).2.length := by
          have : ∀ qs : List Tr, ∀ m, (bldR (qs.drop m) th s).2.length ≤ (bldR qs th s).2.length := by
            intro qs
            induction qs with
            | nil => intro m; simp
            | cons q qs ihq =>
              intro m
              cases m with
              | zero => simp
              | succ m =>
                rw [List.drop_succ_cons]
                have h1 := ihq m
                have h2 := (bld_grow q (bldR qs th s).1 (bldR qs th s).2).le
                rw [bldR]; omega
          exact this ps
        have := key (ps.length - (k + 1)); omega
      rw [e1, bldR] at hgr
      have h2 := hφ ps[ps.length - (k + 1)] (List.getElem_mem hk2) _ _ hgr
      refine ⟨_, _, .inl ?_, by omega, some (td ps[ps.length - (k + 1)]), by rw [e1, bldR], by rw [e1, bldR]⟩
      simp [h2])
  obtain ⟨e', st', hf, h1, x3, rfl, rfl⟩ := hl
  refine ⟨x3, ?_⟩
  rw [hf]
  simp
theorem built_lc (φ : F) (x0 x1 x3 x5 x6 : Option D) (th : Nat) : ∀ (ps : List Tr) (s : List (Option St)), (∀ t ∈ ps, BuiltOk φ t) → (bldP ps th s).2.length ≤ 1000000 →
    lcF 4 tYes (mCallG φ (aCons (mV 4) (aCons (mV 1) (aCons (mV 2) aNil)))) [x0, some (.int (th : Int)), some (.own 0), x3, none, x5, x6] (ps.map td) [.L (s.map osd)] = .ok ((bldP ps th s).1.map fun (e : Nat) => .int (e : Int), [.L ((bldP ps th s).2.map osd)])
  | [], s, _, _ => by simp [lcF, bldP]
  | t :: ts, s, h, hB => by
    rw [bldP] at hB ⊢
    have g := bldP_grow ts th (bld t th s).2
    have h1 := h t List.mem_cons_self th s (by have := g.le; simp only at hB; omega)
    have h2 := built_lc φ x0 x1 x3 x5 x6 th ts (bld t th s).2 (fun x hx => h x (List.mem_cons_of_mem _ hx)) hB
    have h3 : mCallG φ (aCons (mV 4) (aCons (mV 1) (aCons (mV 2) aNil))) [x0, some (.int (th : Int)), some (.own 0), x3, some (td t), x5, x6] [.L (s.map osd)] = .ok (.int ((bld t th s).1 : Int), [.L ((bld t th s).2.map osd)]) := by
      simp [h1]
    rw [List.map_cons, lcF]
    simp only [tYes_eq, R.nox_ok, R.bind_ok, if_true, List.set, h3, chk, List.isEmpty_cons, freeL, free, Bool.and_self, Bool.or_true, h2, List.map_cons]
end Mt
end
section
namespace Mt
open Mini Bd
theorem drop_last1 {α : Type} (es : List α) (hne : es ≠ []) : es.drop (es.length - 1) = [es.getLast hne] := by
  rcases List.eq_nil_or_concat es with h | ⟨ini, x, h⟩
  · exact absurd h hne
  · subst h; simp
def chainB : S := (sCons (sEx (mApp (mV 2) (mTup (aCons (mC (.str [112, 97, 114, 116])) (aCons (mV 6) (aCons (mV 5) aNil))))))
    (sSet 5 (mOp opSub (mB bLen (mV 2)) (mC (.int 1)))))
theorem chain_loop (x0 x1 x3 x4 : Option D) (es : List Nat) (s : List (Option St)) (hne : es ≠ []) (hB : (chain es s).2.length ≤ 1000000) :
    ∃ x6, forF 6 chainB (es.dropLast.map fun (e : Nat) => .int (e : Int)).reverse [x0, x1, some (.own 0), x3, x4, some (.int ((es.getLast hne : Nat) : Int)), none] [.L (s.map osd)] =
      .ok (.nx [x0, x1, some (.own 0), x3, x4, some (.int ((chain es s).1 : Int)), x6], [.L ((chain es s).2.map osd)]) := by
  have hL : 0 < es.length := List.length_pos_iff.mpr hne
  have hlast : chain (es.drop (es.length - 1)) s = (es.getLast hne, s) := by
    rw [drop_last1 es hne]; rfl
  have hmono : ∀ (qs : List Nat) m, (chain (qs.drop m) s).2.length ≤ (chain qs s).2.length := by
    intro qs
    induction qs with
    | nil => intro m; simp
    | cons q qs ihq =>
      intro m
      cases m with
      | zero => simp
      | succ m =>
        rw [List.drop_succ_cons]
        have h1 := ihq m
        cases qs with
        | nil => simp [chain]
        | cons f fs => rw [chain, List.length_append]; omega
  have hl := forF_inv (i := 6) (b := chainB)
    (fun j e st => j + 1 ≤ es.length ∧ ∃ x6, e = [x0, x1, some (.own 0), x3, x4, some (.int ((chain (es.drop (es.length - (j + 1))) s).1 : Int)), x6] ∧ st = [.L ((chain (es.drop (es.length - (j + 1))) s).2.map osd)])
    (es.dropLast.map fun (e : Nat) => .int (e : Int)).reverse 0 [x0, x1, some (.own 0), x3, x4, some (.int ((es.getLast hne : Nat) : Int)), none] [.L (s.map osd)] ⟨by omega, none, by rw [Nat.zero_add, hlast], by rw [Nat.zero_add, hlast]⟩ (fun k e st d hi' hd => by
      obtain ⟨_, x6, rfl, rfl⟩ := hi'
      rw [Nat.zero_add] at *
      have hk : k < es.length - 1 := by have := (List.getElem?_eq_some_iff.mp hd).1; simpa using this
      have hk2 : es.length - (k + 2) < es.length := by omega
      have hd2 : d = .int ((es[es.length - (k + 2)] : Nat) : Int) := by
        rw [List.getElem?_reverse (by simpa using hk), List.length_map, List.length_dropLast, List.getElem?_map, List.getElem?_dropLast] at hd
        rw [if_pos (by omega), show es.length - 1 - 1 - k = es.length - (k + 2) by omega, List.getElem?_eq_getElem hk2] at hd
        simpa using hd.symm
      subst hd2
      have e1 : es.drop (es.length - (k + 2)) = es[es.length - (k + 2)] :: es.drop (es.length - (k + 1)) := by
        rw [List.drop_eq_getElem_cons hk2, show es.length - (k + 2) + 1 = es.length - (k + 1) by omega]
      obtain ⟨f, fs, hf⟩ : ∃ f fs, es.drop (es.length - (k + 1)) = f :: fs := by
        cases h : es.drop (es.length - (k + 1)) with
        | nil => have := congrArg List.length h; simp at this; omega
        | cons f fs => exact ⟨f, fs, rfl⟩
      have hb := hmono es (es.length - (k + 2))
      rw [e1, hf, chain] at hb
      rw [hf]
      generalize hC : chain (f :: fs) s = C at *
      generalize es[es.length - (k + 2)] = e0 at *
      rw [List.length_append, List.length_singleton] at hb
      have a2 := app_L (C.2.map osd) (sd (.part e0 C.1)) (by simp; omega) (free_osd (some (.part e0 C.1)))
      have a0 := app_L0 (C.2.map osd)
      have r2 := rz_L (C.2.map osd ++ [sd (.part e0 C.1)])
      have es2 : sd (.part e0 C.1) = .tup [.str [112, 97, 114, 116], .int (e0 : Int), .int (C.1 : Int)] := rfl
      rw [es2] at a2 r2
      refine ⟨_, _, .inl ?_, by omega, some (.int (e0 : Int)), by rw [show k + 1 + 1 = k + 2 from rfl, e1, hf, chain], by rw [show k + 1 + 1 = k + 2 from rfl, e1, hf, chain]⟩
      rw [hC]
      simp [chainB, a0, a2, r2, osd, sd])
  obtain ⟨e', st', hf, h1, x6, rfl, rfl⟩ := hl
  refine ⟨x6, ?_⟩
  rw [hf]
  simp only [List.length_reverse, List.length_map, List.length_dropLast, Nat.zero_add]
  rw [show es.length - (es.length - 1 + 1) = 0 by omega, List.drop_zero]
theorem ix_last_b (s : Sto) (xs : List D) (d : D) : opIx s (.lst (xs ++ [d])) (.int (-1)) = some d := by
  rw [opIx_lst]; simp [pos_last]
theorem ix_int_last (s : Sto) (es : List Nat) (hne : es ≠ []) : opIx s (.lst (es.map fun (e : Nat) => .int (e : Int))) (.int (-1)) = some (.int ((es.getLast hne : Nat) : Int)) := by
  have e := List.dropLast_concat_getLast hne
  have := ix_last_b s (es.dropLast.map fun (e : Nat) => .int (e : Int)) (.int ((es.getLast hne : Nat) : Int))
  rw [← List.map_singleton (f := fun (e : Nat) => D.int (e : Int)), ← List.map_append, e] at this
  exact this
theorem built_pick (n : Nat) (ps : List Tr) (hφ : ∀ t ∈ ps, BuiltOk (f_p_built n) t) (h2 : 2 ≤ ps.length) (h5 : ps.length ≤ 5000) (th : Nat) (s : List (Option St)) (hB : (bld (.pick ps) th s).2.length ≤ 1000000) :
    f_p_picked (n + 1) [.tup (ps.map td), .int (th : Int), .own 0] [.L (s.map osd)] = .ok (.int ((bld (.pick ps) th s).1 : Int), [.L ((bld (.pick ps) th s).2.map osd)]) := by
  rw [bld] at hB ⊢
  have g := chain_grow (bldP ps th s).1 (bldP ps th s).2
  have hlc := built_lc (f_p_built n) (some (.tup (ps.map td))) none none none none th ps s hφ (by have := g.le; omega)
  have hlen : ∀ (qs : List Tr) s, (bldP qs th s).1.length = qs.length := by
    intro qs
    induction qs with
    | nil => intro s; rw [bldP]; rfl
    | cons q qs ih => intro s; rw [bldP, List.length_cons, List.length_cons, ih]
  have hl := hlen ps s
  generalize hE : (bldP ps th s).1 = es at *
  generalize hS : (bldP ps th s).2 = s1 at *
  have hne : es ≠ [] := fun h => by rw [h] at hl; simp at hl; omega
  obtain ⟨x6, hf⟩ := chain_loop (some (.tup (ps.map td))) (some (.int (th : Int))) (some (.lst (es.map fun (e : Nat) => .int (e : Int)))) none es s1 hne hB
  have hi1 := ix_int_last [.L (s1.map osd)] es hne
  have hct : cut (es.map fun (e : Nat) => D.int (e : Int)) none (some (-1)) = es.dropLast.map fun (e : Nat) => .int (e : Int) := by
    rw [cut_last _ (by simp; omega), List.map_dropLast]
  unfold chainB at hf
  rw [List.map_dropLast] at hf hct
  simp [f_p_picked, runG_eq, b_p_picked, show ps.length ≤ 16777216 by omega, hlc, hi1, hct, hf, -opIx_lst]
end Mt
end
section
namespace Mt
open Mini Bd
theorem free_sd (x : St) : free (sd x) = true := free_osd (some x)
theorem built_all : ∀ (k : Nat) (t : Tr), hi t ≤ k → wf t = true → ∀ n, 2 * k ≤ n → BuiltOk (f_p_built n) t := by
  intro k
  induction k with
  | zero => intro t h; cases t <;> rw [hi] at h <;> omega
  | succ k ih =>
    intro t h hw n hn th s hB
    obtain ⟨m, rfl⟩ : ∃ m, n = m + 1 := ⟨n - 1, by omega⟩
    have gB := bld_grow t th s
    have hsl : s.length ≤ 1000000 := by have := gB.le; omega
    have a0 := app_L0 (s.map osd)
    cases t with
    | take b z =>
      rw [bld] at hB ⊢
      have a2 := app_L (s.map osd) (sd (.take b z th)) (by simp; omega) (free_sd _)
      have r2 := rz_L (s.map osd ++ [sd (.take b z th)])
      have es2 : sd (.take b z th) = .tup [.str [116, 97, 107, 101], .bl b, .str z, .int (th : Int)] := rfl
      rw [es2] at a2 r2
      simp [f_p_built, runG_eq, b_p_built, td_take, pos, a0, a2, r2, osd, sd]
    | row ps =>
      rw [hi] at h
      have hφ : ∀ t ∈ ps, BuiltOk (f_p_built m) t := fun t ht => ih t (by have := hi_mem ht; omega) ((wf_row hw).2 t ht) m (by omega)
      rw [bld] at hB ⊢
      obtain ⟨x3, hf⟩ := built_row (f_p_built m) (some (td (.row ps))) none ps hφ th s hB
      rw [td_row] at hf
      simp [f_p_built, runG_eq, b_p_built, td_row, pos, hf]
    | pick ps =>
      rw [hi] at h
      obtain ⟨m', rfl⟩ : ∃ m', m = m' + 1 := ⟨m - 1, by omega⟩
      have hw2 := wf_pick hw
      have hφ : ∀ t ∈ ps, BuiltOk (f_p_built m') t := fun t ht => ih t (by have := hi_mem ht; omega) (hw2.2 t ht) m' (by omega)
      have := built_pick m' ps hφ hw2.1.1 hw2.1.2 th s hB
      simp [f_p_built, runG_eq, b_p_built, td_pick, pos, this]
    | maybe t g =>
      rw [hi] at h
      rw [bld] at hB ⊢
      have g1 := bld_grow t th (s ++ [none])
      have hl1 := g1.le
      rw [List.length_append, List.length_singleton] at hl1
      simp only [List.length_set] at hB
      have hq := ih t (by omega) (wf_maybe hw) m (by omega) th (s ++ [none]) (by simpa using hB)
      have a2 := app_L (s.map osd) (osd none) (by simp; omega) (free_osd none)
      have a3 : s.map osd ++ [osd none] = (s ++ [none]).map osd := by simp
      rw [a3] at a2
      have r1 := rz_L (s.map osd)
      generalize hC : bld t th (s ++ [none]) = C at *
      have hp := p_parted C.1 th g
      have hput := put_L (C.2.map osd) s.length (sd (prt g C.1 th)) (by rw [List.length_map]; omega) (free_sd _)
      have fr1 : freeL [D.int (C.1 : Int), D.int (th : Int), D.bl g] = true := rfl
      generalize hS : (s ++ [none]).map osd = S1 at *
      have e9 : osd none = .non := rfl
      rw [e9] at a2
      have hset : (C.2.set s.length (some (prt g C.1 th))).map osd = (C.2.map osd).set s.length (sd (prt g C.1 th)) := by rw [List.map_set]; rfl
      rw [hset]
      generalize sd (prt g C.1 th) = v at *
      simp [f_p_built, runG_eq, b_p_built, td_maybe, pos, r1, a0, a2, hq, hp, hput]
    | many t g =>
      rw [hi] at h
      rw [bld] at hB ⊢
      have g1 := bld_grow t s.length (s ++ [none])
      have hl1 := g1.le
      rw [List.length_append, List.length_singleton] at hl1
      simp only [List.length_set] at hB
      have hq := ih t (by omega) (wf_many hw).1 m (by omega) s.length (s ++ [none]) (by simpa using hB)
      have a2 := app_L (s.map osd) (osd none) (by simp; omega) (free_osd none)
      have a3 : s.map osd ++ [osd none] = (s ++ [none]).map osd := by simp
      rw [a3] at a2
      have r1 := rz_L (s.map osd)
      generalize hC : bld t s.length (s ++ [none]) = C at *
      have hp := p_parted C.1 th g
      have hput := put_L (C.2.map osd) s.length (sd (prt g C.1 th)) (by rw [List.length_map]; omega) (free_sd _)
      generalize hS : (s ++ [none]).map osd = S1 at *
      have e9 : osd none = .non := rfl
      rw [e9] at a2
      have hset : (C.2.set s.length (some (prt g C.1 th))).map osd = (C.2.map osd).set s.length (sd (prt g C.1 th)) := by rw [List.map_set]; rfl
      rw [hset]
      generalize sd (prt g C.1 th) = v at *
      simp [f_p_built, runG_eq, b_p_built, td_many, pos, r1, a0, a2, hq, hp, hput]
theorem fill_osd (s : List (Option St)) (h : Grow [some .fin] s) : s.map osd = (fill s).map sd := by
  unfold fill
  rw [List.map_map]
  apply List.map_congr_left
  intro o ho
  obtain ⟨i, hi, rfl⟩ := List.getElem_of_mem ho
  have e : s[i]? = some s[i] := List.getElem?_eq_getElem hi
  by_cases h0 : i = 0
  · have := h.old i (by simp; omega)
    rw [e] at this
    subst h0
    simp at this
    simp [this, osd]
  · obtain ⟨x, hx⟩ := h.new i (by simp; omega) hi
    rw [e] at hx
    simp at hx
    simp [hx, osd]
theorem freeL_sd : ∀ N : List St, freeL (N.map sd) = true
  | [] => rfl
  | x :: N => by rw [List.map_cons, freeL, free_sd, freeL_sd N]; rfl
/-- a net as it stands -/
def netD (n : Nat × List St) : D := .tup [.int (n.1 : Int), .lst (n.2.map sd)]
theorem net_of (t : Tr) (h : hi t ≤ 100) (hw : wf t = true) (hB : (netOf t).2.length ≤ 1000000) : f_p_net_of [td t] = .ok (netD (netOf t)) := by
  have hB' : (bld t 0 [some .fin]).2.length ≤ 1000000 := by unfold netOf fill at hB; simpa using hB
  have hq := built_all 100 t h hw 200 (by omega) 0 [some .fin] hB'
  have g := bld_grow t 0 [some .fin]
  have ef := fill_osd _ g
  have e0 : [some St.fin].map osd = [.tup [.str [101, 110, 100]]] := rfl
  rw [e0, ef] at hq
  have hfr := freeL_sd (netOf t).2
  unfold netOf at hfr ⊢
  simp only at hfr
  unfold netD
  simp only
  generalize bld t 0 [some .fin] = C at *
  have hq : f_p_built 200 [td t, .int 0, .own 0] [.L [.tup [.str [101, 110, 100]]]] = .ok (.int (C.1 : Int), [.L ((fill C.2).map sd)]) := hq
  simp [f_p_net_of, run_eq, b_p_net_of, hq]
end Mt
end
section
namespace Mt
open Mini Bd
theorem least (P : Nat → Prop) : (∃ n, P n) → ∃ n, P n ∧ ∀ m, m < n → ¬ P m := by
  rintro ⟨n, h⟩
  induction n using Nat.strongRecOn with
  | ind n ih =>
    by_cases hx : ∃ m, m < n ∧ P m
    · obtain ⟨m, h1, h2⟩ := hx
      exact ih m h1 h2
    · exact ⟨n, h, fun m hm hp => hx ⟨m, hm, hp⟩⟩
section
variable (N : List St) (w : List Nat)
/-- a place in the net from which every try ends -/
def Dv (v : Nat × Nat) : Prop := ∃ h xs, LN N w h v.1 v.2 xs
open Classical in
noncomputable def Lf (v : Nat × Nat) : List Nat := if h : Dv N w v then h.choose_spec.choose else []
open Classical in
noncomputable def rk (v : Nat × Nat) : Nat := if h : ∃ m, ∃ xs, LN N w m v.1 v.2 xs then (least (fun m => ∃ xs, LN N w m v.1 v.2 xs) h).choose else 0
variable {N w}
theorem Lf_eq {h s p : Nat} {xs : List Nat} (d : LN N w h s p xs) : Lf N w (s, p) = xs := by
  have hD : Dv N w (s, p) := ⟨h, xs, d⟩
  unfold Lf
  rw [dif_pos hD]
  exact LN.det hD.choose_spec.choose_spec d
theorem rk_spec {v : Nat × Nat} (h : Dv N w v) : (∃ xs, LN N w (rk N w v) v.1 v.2 xs) ∧ ∀ m xs, LN N w m v.1 v.2 xs → rk N w v ≤ m := by
  have hx : ∃ m, ∃ xs, LN N w m v.1 v.2 xs := h
  have e : rk N w v = (least (fun m => ∃ xs, LN N w m v.1 v.2 xs) hx).choose := by unfold rk; rw [dif_pos hx]
  have hs := (least (fun m => ∃ xs, LN N w m v.1 v.2 xs) hx).choose_spec
  rw [← e] at hs
  refine ⟨hs.1, fun m xs d => ?_⟩
  by_cases hm : m < rk N w v
  · exact absurd ⟨xs, d⟩ (hs.2 m hm)
  · omega
theorem Dv.fin {s p : Nat} (e : N[s]? = some .fin) : Lf N w (s, p) = [p] := Lf_eq (.fin (h := 0) e)
theorem Dv.part {s p a b : Nat} (h : Dv N w (s, p)) (e : N[s]? = some (.part a b)) : Dv N w (a, p) ∧ Dv N w (b, p) ∧ rk N w (a, p) < rk N w (s, p) ∧ rk N w (b, p) < rk N w (s, p) ∧ Lf N w (s, p) = Lf N w (a, p) ++ Lf N w (b, p) := by
  obtain ⟨⟨xs, d⟩, _⟩ := rk_spec h
  generalize hm : rk N w (s, p) = m at d
  have hL := Lf_eq d
  cases d with
  | fin f => rw [e] at f; cases f
  | go f => rw [e] at f; cases f
  | no f => rw [e] at f; cases f
  | part f d1 d2 =>
    rw [e] at f; cases f
    have h1 : Dv N w (a, p) := ⟨_, _, d1⟩
    have h2 : Dv N w (b, p) := ⟨_, _, d2⟩
    have := (rk_spec h1).2 _ _ d1
    have := (rk_spec h2).2 _ _ d2
    exact ⟨h1, h2, by omega, by omega, by rw [hL, Lf_eq d1, Lf_eq d2]⟩
theorem Dv.go {s p n c : Nat} {b : Bool} {z : List Nat} (h : Dv N w (s, p)) (e : N[s]? = some (.take b z n)) (hc : w[p]? = some c) (ht : takes b z c = true) : Dv N w (n, p + 1) ∧ rk N w (n, p + 1) < rk N w (s, p) ∧ Lf N w (s, p) = Lf N w (n, p + 1) := by
  obtain ⟨⟨xs, d⟩, _⟩ := rk_spec h
  generalize hm : rk N w (s, p) = m at d
  have hL := Lf_eq d
  cases d with
  | fin f => rw [e] at f; cases f
  | go f f2 f3 d1 =>
    rw [e] at f; cases f
    have h1 : Dv N w (n, p + 1) := ⟨_, _, d1⟩
    have := (rk_spec h1).2 _ _ d1
    exact ⟨h1, by omega, by rw [hL, Lf_eq d1]⟩
  | no f f2 => rw [e] at f; cases f; rw [f2 _ hc] at ht; cases ht
  | part f d1 d2 => rw [e] at f; cases f
theorem Dv.no {s p n : Nat} {b : Bool} {z : List Nat} (h : Dv N w (s, p)) (e : N[s]? = some (.take b z n)) (hc : ∀ c, w[p]? = some c → takes b z c = false) : Lf N w (s, p) = [] := Lf_eq (.no (h := 0) e hc)
theorem Dv.lt {s p : Nat} (h : Dv N w (s, p)) : s < N.length := by
  obtain ⟨m, xs, d⟩ := h
  cases d with
  | fin f => exact (List.getElem?_eq_some_iff.mp f).1
  | go f => exact (List.getElem?_eq_some_iff.mp f).1
  | no f => exact (List.getElem?_eq_some_iff.mp f).1
  | part f => exact (List.getElem?_eq_some_iff.mp f).1
variable (N w)
/-- what is known needs no second look -/
def Inv2 (K W : List (Nat × Nat)) : Prop := ∀ m ∈ K, ∃ A B, W = A ++ B ∧ (∀ a ∈ A, rk N w a < rk N w m) ∧ ((∀ a ∈ A, Lf N w a = []) → Lf N w m = [])
variable {N w}
theorem Inv2.skip {K W : List (Nat × Nat)} {v : Nat × Nat} (h : Inv2 N w K (v :: W)) (hv : v ∈ K) : Lf N w v = [] ∧ Inv2 N w K W := by
  have h0 : Lf N w v = [] := by
    obtain ⟨A, B, e, h1, h2⟩ := h v hv
    cases A with
    | nil => exact h2 (by simp)
    | cons a A =>
      simp only [List.cons_append, List.cons.injEq] at e
      obtain ⟨rfl, _⟩ := e
      have := h1 v List.mem_cons_self
      omega
  refine ⟨h0, fun m hm => ?_⟩
  obtain ⟨A, B, e, h1, h2⟩ := h m hm
  cases A with
  | nil => exact ⟨[], W, rfl, by simp, fun _ => h2 (by simp)⟩
  | cons a A =>
    simp only [List.cons_append, List.cons.injEq] at e
    obtain ⟨rfl, rfl⟩ := e
    refine ⟨A, B, rfl, fun a ha => h1 a (List.mem_cons_of_mem _ ha), fun hA => h2 fun a ha => ?_⟩
    rcases List.mem_cons.mp ha with rfl | ha
    · exact h0
    · exact hA a ha
theorem Inv2.push {K W : List (Nat × Nat)} {v : Nat × Nat} (ch : List (Nat × Nat)) (h : Inv2 N w K (v :: W)) (hr : ∀ a ∈ ch, rk N w a < rk N w v) (hL : (∀ a ∈ ch, Lf N w a = []) → Lf N w v = []) : Inv2 N w (K ++ [v]) (ch ++ W) := by
  intro m hm
  rcases List.mem_append.mp hm with hm | hm
  · obtain ⟨A, B, e, h1, h2⟩ := h m hm
    cases A with
    | nil => exact ⟨[], ch ++ W, rfl, by simp, fun _ => h2 (by simp)⟩
    | cons a A =>
      simp only [List.cons_append, List.cons.injEq] at e
      obtain ⟨rfl, rfl⟩ := e
      have hv := h1 v List.mem_cons_self
      refine ⟨ch ++ A, B, by simp, fun a ha => ?_, fun hA => h2 fun a ha => ?_⟩
      · rcases List.mem_append.mp ha with ha | ha
        · have := hr a ha; omega
        · exact h1 a (List.mem_cons_of_mem _ ha)
      · rcases List.mem_cons.mp ha with rfl | ha
        · exact hL fun b hb => hA b (List.mem_append_left _ hb)
        · exact hA a (List.mem_append_right _ ha)
  · rw [List.mem_singleton.mp hm]
    exact ⟨ch, W, rfl, hr, hL⟩
end
/-- the nodes -/
def nodes (n m : Nat) : List (Nat × Nat) := (List.range n).flatMap fun i => (List.range (m + 1)).map fun q => (i, q)
theorem mem_nodes {n m s p : Nat} (h1 : s < n) (h2 : p ≤ m) : (s, p) ∈ nodes n m := by
  unfold nodes
  exact List.mem_flatMap.mpr ⟨s, List.mem_range.mpr h1, List.mem_map.mpr ⟨p, List.mem_range.mpr (by omega), rfl⟩⟩
theorem nodes_len (n m : Nat) : (nodes n m).length = n * (m + 1) := by
  unfold nodes
  rw [List.length_flatMap]
  have : (List.range n).map (fun i => ((List.range (m + 1)).map fun q => (i, q)).length) = (List.range n).map fun _ => m + 1 := by
    apply List.map_congr_left; intro i _; simp
  rw [this]
  induction n with
  | zero => simp
  | succ n ih => rw [List.range_succ, List.map_append, List.sum_append, ih (by apply List.map_congr_left; intro i _; simp)]; simp [Nat.succ_mul]
def unk (V K : List (Nat × Nat)) : List (Nat × Nat) := V.filter fun v => decide (v ∉ K)
theorem unk_add (K : List (Nat × Nat)) (v : Nat × Nat) (hk : v ∉ K) : ∀ V : List (Nat × Nat), (unk V (K ++ [v])).length ≤ (unk V K).length ∧ (v ∈ V → (unk V (K ++ [v])).length + 1 ≤ (unk V K).length)
  | [] => by simp [unk]
  | u :: V => by
    obtain ⟨h1, h2⟩ := unk_add K v hk V
    unfold unk at *
    by_cases hu : u ∈ K
    · have e1 : ¬ (u ∉ K ++ [v]) := fun h => h (List.mem_append_left _ hu)
      simp only [List.filter_cons, decide_eq_true_eq, hu, not_true, if_false, e1, decide_false, Bool.false_eq_true]
      refine ⟨h1, fun hv => ?_⟩
      rcases List.mem_cons.mp hv with rfl | hv
      · exact absurd hu hk
      · exact h2 hv
    · by_cases hv : u = v
      · subst hv
        have e1 : ¬ (u ∉ K ++ [u]) := fun h => h (by simp)
        simp only [List.filter_cons, hu, not_false_eq_true, decide_true, if_true, e1, decide_false, Bool.false_eq_true, if_false, List.length_cons]
        exact ⟨by omega, fun _ => by omega⟩
      · have e1 : u ∉ K ++ [v] := by simp [hu, hv]
        simp only [List.filter_cons, hu, not_false_eq_true, decide_true, if_true, e1, List.length_cons]
        refine ⟨by omega, fun h => ?_⟩
        rcases List.mem_cons.mp h with rfl | h
        · exact absurd rfl hv
        · have := h2 h; omega
end Mt
end
section
namespace Mt
open Mini Bd
def prD (v : Nat × Nat) : D := .tup [.int (v.1 : Int), .int (v.2 : Int)]
theorem p_takes (b : Bool) (z : List Nat) (c : Nat) : f_p_takes [.bl b, .str z, .str [c]] = .ok (.bl (takes b z c)) := by
  simp [f_p_takes, run_eq, b_p_takes, takes]
end Mt
end
section
namespace Mt
open Mini Bd
/-- all targets lie below m -/
def Cl (m : Nat) : St → Prop
  | .fin => True
  | .take _ _ n => n < m
  | .part a b => a < m ∧ b < m
theorem Cl.mono {m m' : Nat} (h : m ≤ m') : ∀ {x : St}, Cl m x → Cl m' x
  | .fin, _ => trivial
  | .take _ _ n, c => by unfold Cl at c ⊢; omega
  | .part a b, c => by unfold Cl at c ⊢; omega
theorem Cl.prt {m a b : Nat} (g : Bool) (h1 : a < m) (h2 : b < m) : Cl m (prt g a b) := by
  cases g
  · exact ⟨h2, h1⟩
  · exact ⟨h1, h2⟩
/-- what is new from lo on has its targets within -/
def ClS (lo : Nat) (s : List (Option St)) : Prop := ∀ i x, lo ≤ i → s[i]? = some (some x) → Cl s.length x
theorem ClS.trans {a : Nat} {b c : List (Option St)} (h1 : ClS a b) (g : Grow b c) (h2 : ClS b.length c) : ClS a c := fun i x hi he => by
  by_cases hb : i < b.length
  · rw [g.old i hb] at he
    exact (h1 i x hi he).mono g.le
  · exact h2 i x (by omega) he
theorem ClS.add (s : List (Option St)) (x : St) (h : Cl (s.length + 1) x) : ClS s.length (s ++ [some x]) := fun i y hi he => by
  have hl := (List.getElem?_eq_some_iff.mp he).1
  rw [List.length_append, List.length_singleton] at hl ⊢
  have : i = s.length := by omega
  subst this
  simp at he
  rw [← he]; exact h
theorem chain_closed : ∀ (es : List Nat) (s : List (Option St)), es ≠ [] → (∀ e ∈ es, e < s.length) → (chain es s).1 < (chain es s).2.length ∧ ClS s.length (chain es s).2
  | [], s, h, _ => absurd rfl h
  | [e], s, _, h => ⟨h e List.mem_cons_self, fun i x hi he => by have := (List.getElem?_eq_some_iff.mp he).1; simp only [chain] at this; omega⟩
  | e :: f :: es, s, _, h => by
    obtain ⟨h1, h2⟩ := chain_closed (f :: es) s (by simp) fun x hx => h x (List.mem_cons_of_mem _ hx)
    have g := chain_grow (f :: es) s
    have he := h e List.mem_cons_self
    rw [chain]
    refine ⟨by simp, h2.trans (Grow.add _ _) (ClS.add _ _ ⟨?_, ?_⟩)⟩
    · have := g.le; omega
    · omega
theorem hole_closed {s s1 : List (Option St)} {x : St} (g : Grow (s ++ [none]) s1) (h : ClS (s.length + 1) s1) (hx : Cl s1.length x) : ClS s.length (s1.set s.length (some x)) := fun i y hi he => by
  rw [List.length_set]
  by_cases h3 : i = s.length
  · subst h3
    have hl := g.le
    rw [List.length_append, List.length_singleton] at hl
    rw [List.getElem?_set_self (by omega)] at he
    cases he
    exact hx
  · rw [List.getElem?_set_ne (by omega)] at he
    exact h i y (by omega) he
theorem bld_closed_aux : ∀ n t, hi t ≤ n → wf t = true → ∀ th s, th < s.length → (bld t th s).1 < (bld t th s).2.length ∧ ClS s.length (bld t th s).2 := by
  intro n
  induction n with
  | zero => intro t h; cases t <;> rw [hi] at h <;> omega
  | succ n ih =>
    have row : ∀ ps : List Tr, hiL ps ≤ n → (∀ t ∈ ps, wf t = true) → ∀ th s, th < s.length → (bldR ps th s).1 < (bldR ps th s).2.length ∧ ClS s.length (bldR ps th s).2 := by
      intro ps
      induction ps with
      | nil => intro _ _ th s h; rw [bldR]; exact ⟨h, fun i x hi he => by have := (List.getElem?_eq_some_iff.mp he).1; simp only at this; omega⟩
      | cons t ts ih2 =>
        intro h hw th s hth
        rw [hiL] at h
        rw [bldR]
        obtain ⟨h1, h2⟩ := ih2 (by omega) (fun x hx => hw x (List.mem_cons_of_mem _ hx)) th s hth
        obtain ⟨h3, h4⟩ := ih t (by omega) (hw t List.mem_cons_self) _ _ h1
        exact ⟨h3, h2.trans (bld_grow _ _ _) h4⟩
    have pick : ∀ ps : List Tr, hiL ps ≤ n → (∀ t ∈ ps, wf t = true) → ∀ th s, th < s.length → (∀ e ∈ (bldP ps th s).1, e < (bldP ps th s).2.length) ∧ ClS s.length (bldP ps th s).2 := by
      intro ps
      induction ps with
      | nil => intro _ _ th s h; rw [bldP]; exact ⟨by simp, fun i x hi he => by have := (List.getElem?_eq_some_iff.mp he).1; simp only at this; omega⟩
      | cons t ts ih2 =>
        intro h hw th s hth
        rw [hiL] at h
        rw [bldP]
        obtain ⟨h3, h4⟩ := ih t (by omega) (hw t List.mem_cons_self) th s hth
        have g1 := bld_grow t th s
        obtain ⟨h1, h2⟩ := ih2 (by omega) (fun x hx => hw x (List.mem_cons_of_mem _ hx)) th (bld t th s).2 (by have := g1.le; omega)
        have g2 := bldP_grow ts th (bld t th s).2
        refine ⟨fun e he => ?_, h4.trans g2 h2⟩
        rcases List.mem_cons.mp he with rfl | he
        · have := g2.le; simp only; omega
        · exact h1 e he
    intro t h hw th s hth
    cases t with
    | take b z => rw [bld]; exact ⟨by simp, ClS.add _ _ (by unfold Cl; omega)⟩
    | row ps => rw [hi] at h; rw [bld]; exact row ps (by omega) (wf_row hw).2 th s hth
    | pick ps =>
      rw [hi] at h
      rw [bld]
      obtain ⟨h1, h2⟩ := pick ps (by omega) (wf_pick hw).2 th s hth
      have hne : (bldP ps th s).1 ≠ [] := by
        have h2 := (wf_pick hw).1.1
        cases ps with
        | nil => simp at h2
        | cons _ _ => rw [bldP]; simp
      obtain ⟨h3, h4⟩ := chain_closed _ _ hne h1
      exact ⟨h3, h2.trans (chain_grow _ _) h4⟩
    | maybe t g =>
      rw [hi] at h
      rw [bld]
      have g1 := bld_grow t th (s ++ [none])
      have hl := g1.le
      rw [List.length_append, List.length_singleton] at hl
      obtain ⟨h1, h2⟩ := ih t (by omega) (wf_maybe hw) th (s ++ [none]) (by simp; omega)
      rw [List.length_append, List.length_singleton] at h2
      exact ⟨by simp only [List.length_set]; omega, hole_closed g1 h2 (Cl.prt g h1 (by omega))⟩
    | many t g =>
      rw [hi] at h
      rw [bld]
      have g1 := bld_grow t s.length (s ++ [none])
      have hl := g1.le
      rw [List.length_append, List.length_singleton] at hl
      obtain ⟨h1, h2⟩ := ih t (by omega) (wf_many hw).1 s.length (s ++ [none]) (by simp)
      rw [List.length_append, List.length_singleton] at h2
      exact ⟨by simp only [List.length_set]; omega, hole_closed g1 h2 (Cl.prt g h1 (by omega))⟩
theorem net_closed {t : Tr} (hw : wf t = true) : (netOf t).1 < (netOf t).2.length ∧ ∀ x ∈ (netOf t).2, Cl (netOf t).2.length x := by
  obtain ⟨h1, h2⟩ := bld_closed_aux _ t (Nat.le_refl _) hw 0 [some .fin] (by simp)
  have g := bld_grow t 0 [some .fin]
  unfold netOf fill
  simp only [List.length_map]
  refine ⟨h1, fun x hx => ?_⟩
  obtain ⟨o, ho, rfl⟩ := List.mem_map.mp hx
  obtain ⟨i, hi, rfl⟩ := List.getElem_of_mem ho
  by_cases h0 : i = 0
  · have := g.old i (by simp; omega)
    rw [List.getElem?_eq_getElem hi] at this
    subst h0
    simp at this
    rw [this]; exact trivial
  · obtain ⟨y, hy⟩ := g.new i (by simp; omega) hi
    have := h2 i y (by simp; omega) hy
    rw [List.getElem?_eq_getElem hi] at hy
    simp at hy
    rw [hy]; exact this
end Mt
end
section
namespace Mt
open Mini Bd
def ren (L : Nat) : St → St
  | .fin => .fin
  | .take b z n => .take b z (L - n)
  | .part a b => .part (L - a) (L - b)
def turn (N : List St) : List St := (N.map (ren (N.length - 1))).reverse
theorem turn_at (N : List St) (s : Nat) (x : St) (h : N[s]? = some x) : (turn N)[N.length - 1 - s]? = some (ren (N.length - 1) x) := by
  have hs := (List.getElem?_eq_some_iff.mp h).1
  unfold turn
  rw [List.getElem?_reverse (by rw [List.length_map]; omega), List.length_map, List.getElem?_map]
  rw [show N.length - 1 - (N.length - 1 - s) = s by omega, h]
  rfl
theorem LN_turn {N : List St} {w : List Nat} {h s p : Nat} {xs : List Nat} (d : LN N w h s p xs) : LN (turn N) w h (N.length - 1 - s) p xs := by
  induction d with
  | fin e => exact .fin (turn_at N _ _ e)
  | go e1 e2 e3 _ ih => exact .go (turn_at N _ _ e1) e2 e3 ih
  | no e1 e2 => exact .no (turn_at N _ _ e1) e2
  | part e1 _ _ ih1 ih2 => exact .part (turn_at N _ _ e1) ih1 ih2
end Mt
end
section
namespace Mt
open Mini Bd
theorem chain_len : ∀ (es : List Nat) (s : List (Option St)), (chain es s).2.length = s.length + (es.length - 1)
  | [], s => by simp [chain]
  | [e], s => by simp [chain]
  | e :: f :: es, s => by
    have := chain_len (f :: es) s
    rw [chain, List.length_append, this]
    simp
    omega
theorem bldP_es : ∀ (qs : List Tr) (th : Nat) (s : List (Option St)), (bldP qs th s).1.length = qs.length
  | [], th, s => by rw [bldP]; rfl
  | q :: qs, th, s => by rw [bldP, List.length_cons, List.length_cons, bldP_es qs]
mutual
theorem bld_len : ∀ (t : Tr), wf t = true → ∀ (th : Nat) (s : List (Option St)), ((bld t th s).2.length : Int) = s.length + sz t
  | .take b z, _, th, s => by rw [bld, sz]; simp
  | .row ps, h, th, s => by rw [bld, sz]; exact bldR_len ps (by rw [wf, Bool.and_eq_true] at h; exact h.2) th s
  | .pick ps, h, th, s => by
    rw [wf, Bool.and_eq_true, decide_eq_true_eq] at h
    have h1 := bldP_len ps h.2 th s
    have h2 := chain_len (bldP ps th s).1 (bldP ps th s).2
    have h3 := bldP_es ps th s
    rw [bld, sz]
    omega
  | .maybe t g, h, th, s => by
    have h1 := bld_len t (wf_maybe h) th (s ++ [none])
    rw [bld, sz]
    simp at h1 ⊢
    omega
  | .many t g, h, th, s => by
    have h1 := bld_len t (wf_many h).1 s.length (s ++ [none])
    rw [bld, sz]
    simp at h1 ⊢
    omega
theorem bldR_len : ∀ (ts : List Tr), wfL ts = true → ∀ (th : Nat) (s : List (Option St)), ((bldR ts th s).2.length : Int) = s.length + szL ts
  | [], _, th, s => by rw [bldR, szL]; simp
  | t :: ts, h, th, s => by
    rw [wfL, Bool.and_eq_true] at h
    have h1 := bldR_len ts h.2 th s
    have h2 := bld_len t h.1 (bldR ts th s).1 (bldR ts th s).2
    rw [bldR, szL]
    omega
theorem bldP_len : ∀ (ts : List Tr), wfL ts = true → ∀ (th : Nat) (s : List (Option St)), ((bldP ts th s).2.length : Int) = s.length + szL ts
  | [], _, th, s => by rw [bldP, szL]; simp
  | t :: ts, h, th, s => by
    rw [wfL, Bool.and_eq_true] at h
    have h1 := bld_len t h.1 th s
    have h2 := bldP_len ts h.2 th (bld t th s).2
    rw [bldP, szL]
    simp only
    omega
end
theorem net_len {t : Tr} (h : wf t = true) : ((netOf t).2.length : Int) = 1 + sz t := by
  have := bld_len t h 0 [some .fin]
  unfold netOf fill
  simpa using this
/-- the signs of a step are such as there are -/
def Zt : St → Prop
  | .take _ z _ => z.length ≤ 1000 ∧ ∀ c ∈ z, c ∈ tbl
  | _ => True
def ZS (s : List (Option St)) : Prop := ∀ x, some x ∈ s → Zt x
theorem ZS.add {s : List (Option St)} {x : St} (h : ZS s) (hx : Zt x) : ZS (s ++ [some x]) := fun y hy => by
  rcases List.mem_append.mp hy with hy | hy
  · exact h y hy
  · simp at hy; rw [hy]; exact hx
theorem ZS.hole {s : List (Option St)} (h : ZS s) : ZS (s ++ [none]) := fun y hy => by
  rcases List.mem_append.mp hy with hy | hy
  · exact h y hy
  · simp at hy
theorem ZS.set {s : List (Option St)} {x : St} (h : ZS s) (hx : Zt x) (i : Nat) : ZS (s.set i (some x)) := fun y hy => by
  rcases List.mem_or_eq_of_mem_set hy with hy | hy
  · exact h y hy
  · simp at hy; rw [hy]; exact hx
theorem Zt.prt (g : Bool) (a b : Nat) : Zt (prt g a b) := by cases g <;> trivial
theorem chain_z : ∀ (es : List Nat) (s : List (Option St)), ZS s → ZS (chain es s).2
  | [], s, h => h
  | [e], s, h => h
  | e :: f :: es, s, h => by rw [chain]; exact (chain_z (f :: es) s h).add trivial
mutual
theorem bld_z : ∀ (t : Tr), wf t = true → ∀ (th : Nat) (s : List (Option St)), ZS s → ZS (bld t th s).2
  | .take b z, h, th, s, hs => by rw [bld]; exact hs.add (wf_take h)
  | .row ps, h, th, s, hs => by rw [bld]; exact bldR_z ps (by rw [wf, Bool.and_eq_true] at h; exact h.2) th s hs
  | .pick ps, h, th, s, hs => by rw [bld]; exact chain_z _ _ (bldP_z ps (by rw [wf, Bool.and_eq_true] at h; exact h.2) th s hs)
  | .maybe t g, h, th, s, hs => by rw [bld]; exact (bld_z t (wf_maybe h) th _ hs.hole).set (Zt.prt _ _ _) _
  | .many t g, h, th, s, hs => by rw [bld]; exact (bld_z t (wf_many h).1 _ _ hs.hole).set (Zt.prt _ _ _) _
theorem bldR_z : ∀ (ts : List Tr), wfL ts = true → ∀ (th : Nat) (s : List (Option St)), ZS s → ZS (bldR ts th s).2
  | [], _, th, s, hs => by rw [bldR]; exact hs
  | t :: ts, h, th, s, hs => by
    rw [wfL, Bool.and_eq_true] at h
    rw [bldR]; exact bld_z t h.1 _ _ (bldR_z ts h.2 th s hs)
theorem bldP_z : ∀ (ts : List Tr), wfL ts = true → ∀ (th : Nat) (s : List (Option St)), ZS s → ZS (bldP ts th s).2
  | [], _, th, s, hs => by rw [bldP]; exact hs
  | t :: ts, h, th, s, hs => by
    rw [wfL, Bool.and_eq_true] at h
    rw [bldP]; exact bldP_z ts h.2 _ _ (bld_z t h.1 th s hs)
end
theorem net_z {t : Tr} (h : wf t = true) : ∀ x ∈ (netOf t).2, Zt x := fun x hx => by
  have := bld_z t h 0 [some .fin] (fun y hy => by simp at hy; rw [hy]; trivial)
  unfold netOf fill at hx
  obtain ⟨o, ho, rfl⟩ := List.mem_map.mp hx
  cases o with
  | none => trivial
  | some y => exact this y ho
/-- a net that takes what a tree takes, from every place -/
structure NetFor (w : List Nat) (t : Tr) (n0 : Nat) (N : List St) : Prop where
  dv : ∀ p, p ≤ w.length → Dv N w (n0, p)
  lf : ∀ p, p ≤ w.length → Lf N w (n0, p) = LT w t p
  len : (N.length : Int) = 1 + sz t
  lt : n0 < N.length
  cl : ∀ x ∈ N, Cl N.length x
  zt : ∀ x ∈ N, Zt x
theorem net_for {t : Tr} (hw : wf t = true) (w : List Nat) : NetFor w t (netOf t).1 (netOf t).2 := by
  obtain ⟨h1, h2⟩ := net_closed hw
  refine ⟨fun p hp => ?_, fun p hp => ?_, net_len hw, h1, h2, net_z hw⟩
  · obtain ⟨m, hm⟩ := net_LN (w := w) hw p hp
    exact ⟨m, _, hm⟩
  · obtain ⟨m, hm⟩ := net_LN (w := w) hw p hp
    exact Lf_eq hm
theorem turn_len (N : List St) : (turn N).length = N.length := by unfold turn; simp
theorem turn_cl {N : List St} (hc : ∀ x ∈ N, Cl N.length x) (h0 : 0 < N.length) : ∀ x ∈ turn N, Cl (turn N).length x := by
  intro x hx
  rw [turn_len]
  unfold turn at hx
  rw [List.mem_reverse] at hx
  obtain ⟨y, hy, rfl⟩ := List.mem_map.mp hx
  have := hc y hy
  cases y with
  | fin => trivial
  | take b z n => unfold Cl ren at *; omega
  | part a b => unfold Cl ren at *; omega
theorem turn_zt {N : List St} (hc : ∀ x ∈ N, Zt x) : ∀ x ∈ turn N, Zt x := by
  intro x hx
  unfold turn at hx
  rw [List.mem_reverse] at hx
  obtain ⟨y, hy, rfl⟩ := List.mem_map.mp hx
  have := hc y hy
  cases y with
  | fin => trivial
  | take b z n => exact this
  | part a b => trivial
theorem NetFor.turn {w : List Nat} {t : Tr} {n0 : Nat} {N : List St} (h : NetFor w t n0 N) : NetFor w t (N.length - 1 - n0) (turn N) := by
  have h0 := h.lt
  refine ⟨fun p hp => ?_, fun p hp => ?_, by rw [turn_len]; exact h.len, by rw [turn_len]; omega, turn_cl h.cl (by omega), turn_zt h.zt⟩
  · obtain ⟨m, xs, hm⟩ := h.dv p hp
    exact ⟨m, xs, LN_turn hm⟩
  · obtain ⟨m, xs, hm⟩ := h.dv p hp
    have e : Lf N w (n0, p) = xs := Lf_eq hm
    rw [← h.lf p hp, e]
    exact Lf_eq (LN_turn hm)
theorem plainL_sd : ∀ N : List St, (∀ x ∈ N, Zt x) → plainL (N.map sd) = true ∧ depL (N.map sd) ≤ 1 ∧ deqL (N.map sd) (N.map sd) = true
  | [], _ => by simp [depL, deqL]
  | x :: N, h => by
    obtain ⟨h1, h2, h3⟩ := plainL_sd N fun y hy => h y (List.mem_cons_of_mem _ hy)
    have hx := h x List.mem_cons_self
    have key : plain (sd x) = true ∧ dep (sd x) ≤ 1 ∧ deq (sd x) (sd x) = true := by
      cases x with
      | fin => simp [sd, dep, depL, deq, deqL]
      | take b z n =>
        have := hx.2
        have hb : ∀ c ∈ tbl, c < 1114112 := by decide
        refine ⟨?_, by simp [sd, dep, depL], by simp [sd, deq, deqL]⟩
        simp [sd]
        exact fun c hc => hb c (this c hc)
      | part a b => simp [sd, dep, depL, deq, deqL]
    refine ⟨by simp [h1, key.1], by rw [List.map_cons, depL]; exact Nat.max_le.mpr ⟨key.2.1, h2⟩, by simp [deqL, key.2.2, h3]⟩
end Mt
end
section
namespace Mt
open Mini Bd
def isFin (N : List St) (s : Nat) : Bool := match N[s]? with
  | some .fin => true
  | _ => false
theorem isFin_iff {N : List St} {s : Nat} : isFin N s = true ↔ N[s]? = some .fin := by
  unfold isFin
  split
  · rename_i h; simp [h]
  · rename_i h; constructor
    · intro h; cases h
    · intro h2; exact absurd h2 h
/-! rows -/
/-- what is not there yet -/
def uns (V K : List Nat) : Nat := (V.filter fun v => decide (v ∉ K)).length
theorem uns_add (K : List Nat) (v : Nat) (hk : v ∉ K) : ∀ V : List Nat, uns V (K ++ [v]) ≤ uns V K ∧ (v ∈ V → uns V (K ++ [v]) + 1 ≤ uns V K)
  | [] => by simp [uns]
  | u :: V => by
    obtain ⟨h1, h2⟩ := uns_add K v hk V
    unfold uns at *
    by_cases hu : u ∈ K
    · have e1 : ¬ (u ∉ K ++ [v]) := fun h => h (List.mem_append_left _ hu)
      simp only [List.filter_cons, decide_eq_true_eq, hu, not_true, if_false, e1, decide_false, Bool.false_eq_true]
      refine ⟨h1, fun hv => ?_⟩
      rcases List.mem_cons.mp hv with rfl | hv
      · exact absurd hu hk
      · exact h2 hv
    · by_cases hv : u = v
      · subst hv
        have e1 : ¬ (u ∉ K ++ [u]) := fun h => h (by simp)
        simp only [List.filter_cons, hu, not_false_eq_true, decide_true, if_true, e1, decide_false, Bool.false_eq_true, if_false, List.length_cons]
        exact ⟨by omega, fun _ => by omega⟩
      · have e1 : u ∉ K ++ [v] := by simp [hu, hv]
        simp only [List.filter_cons, hu, not_false_eq_true, decide_true, if_true, e1, List.length_cons]
        refine ⟨by omega, fun h => ?_⟩
        rcases List.mem_cons.mp h with rfl | h
        · exact absurd rfl hv
        · have := h2 h; omega
abbrev Row := List (Nat × Nat)
def ended (N : List St) (row : Row) : Bool := match row.getLast? with
  | some v => isFin N v.1
  | none => false
/-- a step led into a row -/
def Led (N : List St) (b : Nat) : Nat → Row → Nat → Row
  | 0, row, _ => row
  | f + 1, row, s => if ended N row = true ∨ s ∈ row.map (·.1) then row else match N[s]? with
    | some (.part x y) => Led N b f (Led N b f (row ++ [(s, b)]) x) y
    | _ => row ++ [(s, b)]
abbrev un (N : List St) (row : Row) : Nat := uns (List.range N.length) (row.map (·.1))
theorem ended_snoc (N : List St) (row : Row) (v : Nat × Nat) : ended N (row ++ [v]) = isFin N v.1 := by unfold ended; rw [List.getLast?_concat]
theorem Led_nil {N : List St} {b f : Nat} {row : Row} {s : Nat} (h : ended N row = true ∨ s ∈ row.map (·.1)) : Led N b f row s = row := by
  cases f with
  | zero => rfl
  | succ f => rw [Led, if_pos h]
theorem Led_leaf {N : List St} {b f : Nat} {row : Row} {s : Nat} (h : ¬ (ended N row = true ∨ s ∈ row.map (·.1))) (hp : ∀ x y, N[s]? ≠ some (.part x y)) : Led N b (f + 1) row s = row ++ [(s, b)] := by
  rw [Led, if_neg h]
  split
  · rename_i x y e; exact absurd e (hp x y)
  · rfl
theorem Led_part {N : List St} {b f : Nat} {row : Row} {s x y : Nat} (h : ¬ (ended N row = true ∨ s ∈ row.map (·.1))) (hp : N[s]? = some (.part x y)) : Led N b (f + 1) row s = Led N b f (Led N b f (row ++ [(s, b)]) x) y := by
  rw [Led, if_neg h, hp]
/-- what there is stays -/
theorem Led_pre (N : List St) (b : Nat) : ∀ (f : Nat) (row : Row) (s : Nat), ∃ m, Led N b f row s = row ++ m ∧ ∀ v ∈ m, v.2 = b
  | 0, row, s => ⟨[], by simp [Led], by simp⟩
  | f + 1, row, s => by
    by_cases h : ended N row = true ∨ s ∈ row.map (·.1)
    · exact ⟨[], by rw [Led_nil h, List.append_nil], by simp⟩
    · by_cases hp : ∃ x y, N[s]? = some (.part x y)
      · obtain ⟨x, y, hp⟩ := hp
        obtain ⟨m1, e1, q1⟩ := Led_pre N b f (row ++ [(s, b)]) x
        obtain ⟨m2, e2, q2⟩ := Led_pre N b f (Led N b f (row ++ [(s, b)]) x) y
        refine ⟨(s, b) :: (m1 ++ m2), by rw [Led_part h hp, e2, e1]; simp, fun v hv => ?_⟩
        rcases List.mem_cons.mp hv with rfl | hv
        · rfl
        · rcases List.mem_append.mp hv with hv | hv
          · exact q1 v hv
          · exact q2 v hv
      · refine ⟨[(s, b)], Led_leaf h fun x y e => hp ⟨x, y, e⟩, fun v hv => by rw [List.mem_singleton.mp hv]⟩
theorem uns_mono (V : List Nat) : ∀ (m K : List Nat), uns V (K ++ m) ≤ uns V K
  | [], K => by simp
  | x :: m, K => by
    have h1 := uns_mono V m (K ++ [x])
    rw [List.append_assoc, List.singleton_append] at h1
    by_cases hx : x ∈ K
    · refine Nat.le_trans h1 ?_
      have : uns V (K ++ [x]) = uns V K := by
        unfold uns
        congr 1
        apply List.filter_congr
        intro v _
        by_cases hv : v = x
        · subst hv; simp [hx]
        · simp [hv]
      omega
    · exact Nat.le_trans h1 (uns_add K x hx V).1
theorem un_Led (N : List St) (b f : Nat) (row : Row) (s : Nat) : un N (Led N b f row s) ≤ un N row := by
  obtain ⟨m, e, _⟩ := Led_pre N b f row s
  unfold un
  rw [e, List.map_append]
  exact uns_mono _ _ _
theorem un_snoc {N : List St} {row : Row} {s b : Nat} (hs : s < N.length) (h : s ∉ row.map (·.1)) : un N (row ++ [(s, b)]) + 1 ≤ un N row := by
  have := (uns_add (row.map (·.1)) s h (List.range N.length)).2 (List.mem_range.mpr hs)
  unfold un
  rw [List.map_append]
  exact this
/-- enough is enough -/
theorem Led_fuel (N : List St) (b : Nat) : ∀ (u : Nat) (row : Row) (s f f' : Nat), un N row ≤ u → u < f → u < f' → Led N b f row s = Led N b f' row s := by
  intro u
  induction u with
  | zero =>
    intro row s f f' hu hf hf'
    obtain ⟨f, rfl⟩ : ∃ g, f = g + 1 := ⟨f - 1, by omega⟩
    obtain ⟨f', rfl⟩ : ∃ g, f' = g + 1 := ⟨f' - 1, by omega⟩
    by_cases h : ended N row = true ∨ s ∈ row.map (·.1)
    · rw [Led_nil h, Led_nil h]
    · by_cases hp : ∃ x y, N[s]? = some (.part x y)
      · obtain ⟨x, y, hp⟩ := hp
        have := un_snoc (b := b) (List.getElem?_eq_some_iff.mp hp).1 fun h2 => h (.inr h2)
        omega
      · rw [Led_leaf h fun x y e => hp ⟨x, y, e⟩, Led_leaf h fun x y e => hp ⟨x, y, e⟩]
  | succ u ih =>
    intro row s f f' hu hf hf'
    obtain ⟨f, rfl⟩ : ∃ g, f = g + 1 := ⟨f - 1, by omega⟩
    obtain ⟨f', rfl⟩ : ∃ g, f' = g + 1 := ⟨f' - 1, by omega⟩
    by_cases h : ended N row = true ∨ s ∈ row.map (·.1)
    · rw [Led_nil h, Led_nil h]
    · by_cases hp : ∃ x y, N[s]? = some (.part x y)
      · obtain ⟨x, y, hp⟩ := hp
        have h1 := un_snoc (b := b) (List.getElem?_eq_some_iff.mp hp).1 fun h2 => h (.inr h2)
        have h2 := un_Led N b f (row ++ [(s, b)]) x
        rw [Led_part h hp, Led_part h hp, ih _ y f f' (by omega) (by omega) (by omega), ih _ x f f' (by omega) (by omega) (by omega)]
      · rw [Led_leaf h fun x y e => hp ⟨x, y, e⟩, Led_leaf h fun x y e => hp ⟨x, y, e⟩]
theorem un_le (N : List St) (row : Row) : un N row ≤ N.length := by
  have := List.length_filter_le (fun v => decide (v ∉ row.map (·.1))) (List.range N.length)
  rw [List.length_range] at this
  exact this
/-- .. with all that it may take -/
abbrev LedN (N : List St) (b : Nat) (row : Row) (s : Nat) : Row := Led N b (N.length + 1) row s
theorem LedN_part {N : List St} {b : Nat} {row : Row} {s x y : Nat} (h : ¬ (ended N row = true ∨ s ∈ row.map (·.1))) (hp : N[s]? = some (.part x y)) : LedN N b row s = LedN N b (LedN N b (row ++ [(s, b)]) x) y := by
  have h1 := un_snoc (b := b) (List.getElem?_eq_some_iff.mp hp).1 fun h2 => h (.inr h2)
  have h0 := un_le N row
  unfold LedN
  rw [Led_part h hp]
  have h2 := un_Led N b (N.length + 1) (row ++ [(s, b)]) x
  rw [Led_fuel N b (un N (row ++ [(s, b)])) (row ++ [(s, b)]) x N.length (N.length + 1) (Nat.le_refl _) (by omega) (by omega)]
  exact Led_fuel N b (un N (row ++ [(s, b)])) _ y _ _ h2 (by omega) (by omega)
/-- steps stand once, begins are begins -/
structure RowOk (N : List St) (p : Nat) (row : Row) : Prop where
  once : (row.map (·.1)).Nodup
  lt : ∀ v ∈ row, v.1 < N.length
  ge : ∀ v ∈ row, v.2 ≤ p
theorem RowOk.nil (N : List St) (p : Nat) : RowOk N p [] := ⟨by simp, by simp, by simp⟩
theorem RowOk.snoc {N : List St} {p : Nat} {row : Row} (h : RowOk N p row) {s b : Nat} (hs : s < N.length) (hb : b ≤ p) (hn : s ∉ row.map (·.1)) : RowOk N p (row ++ [(s, b)]) := by
  refine ⟨?_, fun v hv => ?_, fun v hv => ?_⟩
  · rw [List.map_append, List.nodup_append]
    refine ⟨h.once, by simp, fun a ha c hc => ?_⟩
    simp at hc
    rintro rfl
    exact hn (hc ▸ ha)
  · rcases List.mem_append.mp hv with hv | hv
    · exact h.lt v hv
    · rw [List.mem_singleton.mp hv]; exact hs
  · rcases List.mem_append.mp hv with hv | hv
    · exact h.ge v hv
    · rw [List.mem_singleton.mp hv]; exact hb
theorem nodup_len : ∀ (n : Nat) (K : List Nat), K.Nodup → (∀ k ∈ K, k < n) → K.length ≤ n := by
  intro n K h1 h2
  have := List.Nodup.length_le_of_subset (l₁ := K) (l₂ := List.range n) h1 fun x hx => List.mem_range.mpr (h2 x hx)
  simpa using this
theorem RowOk.len {N : List St} {p : Nat} {row : Row} (h : RowOk N p row) : row.length ≤ N.length := by
  have := nodup_len N.length (row.map (·.1)) h.once fun k hk => by
    obtain ⟨v, hv, rfl⟩ := List.mem_map.mp hk
    exact h.lt v hv
  simpa using this
theorem Led_ok {N : List St} {p b : Nat} (hb : b ≤ p) (hc : ∀ x ∈ N, Cl N.length x) : ∀ (f : Nat) (row : Row) (s : Nat), RowOk N p row → s < N.length → RowOk N p (Led N b f row s)
  | 0, row, s, h, _ => h
  | f + 1, row, s, h, hs => by
    by_cases hn : ended N row = true ∨ s ∈ row.map (·.1)
    · rw [Led_nil hn]; exact h
    · have h1 := h.snoc hs hb fun h2 => hn (.inr h2)
      by_cases hp : ∃ x y, N[s]? = some (.part x y)
      · obtain ⟨x, y, hp⟩ := hp
        have hcl : x < N.length ∧ y < N.length := hc _ (List.mem_of_getElem? hp)
        rw [Led_part hn hp]
        exact Led_ok hb hc f _ y (Led_ok hb hc f _ x h1 hcl.1) hcl.2
      · rw [Led_leaf hn fun x y e => hp ⟨x, y, e⟩]; exact h1
end Mt
end
section
namespace Mt
open Mini Bd
def rD (row : Row) : List D := row.map prD
def sI (row : Row) : List Int := row.map fun v => (v.1 : Int)
theorem sI_mem (s : Nat) (row : Row) : (s : Int) ∈ sI row ↔ s ∈ row.map (·.1) := by
  unfold sI
  constructor
  · intro h
    obtain ⟨v, hv, e⟩ := List.mem_map.mp h
    exact List.mem_map.mpr ⟨v, hv, by omega⟩
  · intro h
    obtain ⟨v, hv, e⟩ := List.mem_map.mp h
    exact List.mem_map.mpr ⟨v, hv, by omega⟩
section
variable {N : List St} {n0 : Nat} {x3 : Option D} {b : Nat}
abbrev lEnv (n0 : Nat) (N : List St) (x3 : Option D) (b : Nat) (x6 x7 : Option D) : Env := [some (netD (n0, N)), some (.own 0), some (.own 1), x3, some (.int (b : Int)), some (.own 2), x6, x7]
theorem l_pop (rs : List D) (ks : List Int) (ds : List D) (d : D) : kPop2 [Ob.L rs, .DI ks, .L (ds ++ [d])] 2 (some (.L (ds ++ [d]))) = .ok (d, [.L rs, .DI ks, .L ds]) := kPop2_ok
theorem l_in (rs : List D) (ks : List Int) (ds : List D) (i : Int) : opInB [Ob.L rs, .DI ks, .L ds] (.int i) (.own 1) = some (decide (i ∈ ks)) := opInB_DI rfl i
theorem l_rz1 (rs : List D) (ks : List Int) (ds : List D) : rz [Ob.L rs, .DI ks, .L ds] (.own 1) = .own 1 := rz_ownI rfl
theorem l_rz2 (rs : List D) (ks : List Int) (ds : List D) : rz [Ob.L rs, .DI ks, .L ds] (.own 2) = .lst ds := rz_own rfl
theorem l_put (rs : List D) (ks : List Int) (ds : List D) (i : Int) (h : ks.length < 16777216) (hn : i ∉ ks) : putS [Ob.L rs, .DI ks, .L ds] 1 (.int i) (.bl true) = some [.L rs, .DI (ks ++ [i]), .L ds] := by
  simp [putS, h, hn]
theorem l_app0 (rs : List D) (ks : List Int) (ds : List D) (a : M) (e : Env) : kApp a e (.ok (.own 0, [Ob.L rs, .DI ks, .L ds])) = kApp2 0 (a e [.L rs, .DI ks, .L ds]) := kApp_ok rfl
theorem l_app0' (rs : List D) (ks : List Int) (ds : List D) (d : D) (h : rs.length < 16777216) (hf : free d = true) : kApp2 0 (.ok (d, [Ob.L rs, .DI ks, .L ds])) = .ok (.non, [.L (rs ++ [d]), .DI ks, .L ds]) := kApp2_ok rfl h hf
theorem l_app2 (rs : List D) (ks : List Int) (ds : List D) (a : M) (e : Env) : kApp a e (.ok (.own 2, [Ob.L rs, .DI ks, .L ds])) = kApp2 2 (a e [.L rs, .DI ks, .L ds]) := kApp_ok rfl
theorem l_app2' (rs : List D) (ks : List Int) (ds : List D) (d : D) (h : ds.length < 16777216) (hf : free d = true) : kApp2 2 (.ok (d, [Ob.L rs, .DI ks, .L ds])) = .ok (.non, [.L rs, .DI ks, .L (ds ++ [d])]) := kApp2_ok rfl h hf
theorem l_test (rs : List D) (ks : List Int) (ds : List D) (e0 e1 e2 e3 e4 e6 e7 : Option D) : t_p_led_in_1 [e0, e1, e2, e3, e4, some (.own 2), e6, e7] [Ob.L rs, .DI ks, .L ds] = .ok (!ds.isEmpty, [.L rs, .DI ks, .L ds]) := by
  simp [t_p_led_in_1, l_rz2]
theorem l_skip (rs : List D) (ks : List Int) (ds : List D) (s : Nat) (x6 x7 : Option D) (h : (s : Int) ∈ ks) :
    c_p_led_in_1 (lEnv n0 N x3 b x6 x7) [.L rs, .DI ks, .L (ds ++ [.int (s : Int)])] = .ok (.ct (lEnv n0 N x3 b (some (.int (s : Int))) x7), [.L rs, .DI ks, .L ds]) := by
  simp [c_p_led_in_1, lEnv, l_pop, l_rz1, l_in, h]
theorem l_fin (rs : List D) (ks : List Int) (ds : List D) (s : Nat) (x6 x7 : Option D) (h : (s : Int) ∉ ks) (hk : ks.length < 16777216) (hr : rs.length < 16777216) (hN : N[s]? = some .fin) :
    c_p_led_in_1 (lEnv n0 N x3 b x6 x7) [.L rs, .DI ks, .L (ds ++ [.int (s : Int)])] = .ok (.rt (.bl true), [.L (rs ++ [prD (s, b)]), .DI (ks ++ [(s : Int)]), .L ds]) := by
  have hs : s < N.length := (List.getElem?_eq_some_iff.mp hN).1
  have hNs := (List.getElem?_eq_some_iff.mp hN).2
  have hp := l_put rs ks ds s hk h
  have a0 := l_app0 rs (ks ++ [(s : Int)]) ds
  have a1 := l_app0' rs (ks ++ [(s : Int)]) ds (prD (s, b)) hr rfl
  simp only [prD] at a1 ⊢
  simp [c_p_led_in_1, lEnv, l_pop, l_rz1, l_in, h, hp, a0, a1, netD, pos, hs, hNs, sd]
theorem l_take (rs : List D) (ks : List Int) (ds : List D) (s n : Nat) (q : Bool) (z : List Nat) (x6 x7 : Option D) (h : (s : Int) ∉ ks) (hk : ks.length < 16777216) (hr : rs.length < 16777216) (hN : N[s]? = some (.take q z n)) :
    c_p_led_in_1 (lEnv n0 N x3 b x6 x7) [.L rs, .DI ks, .L (ds ++ [.int (s : Int)])] = .ok (.nx (lEnv n0 N x3 b (some (.int (s : Int))) (some (sd (.take q z n)))), [.L (rs ++ [prD (s, b)]), .DI (ks ++ [(s : Int)]), .L ds]) := by
  have hs : s < N.length := (List.getElem?_eq_some_iff.mp hN).1
  have hNs := (List.getElem?_eq_some_iff.mp hN).2
  have hp := l_put rs ks ds s hk h
  have a0 := l_app0 rs (ks ++ [(s : Int)]) ds
  have a1 := l_app0' rs (ks ++ [(s : Int)]) ds (prD (s, b)) hr rfl
  simp only [prD] at a1 ⊢
  simp [c_p_led_in_1, lEnv, l_pop, l_rz1, l_in, h, hp, a0, a1, netD, pos, hs, hNs, sd]
theorem l_part (rs : List D) (ks : List Int) (ds : List D) (s x y : Nat) (x6 x7 : Option D) (h : (s : Int) ∉ ks) (hk : ks.length < 16777216) (hr : rs.length < 16777216) (hd : ds.length < 16777000) (hN : N[s]? = some (.part x y)) :
    c_p_led_in_1 (lEnv n0 N x3 b x6 x7) [.L rs, .DI ks, .L (ds ++ [.int (s : Int)])] = .ok (.nx (lEnv n0 N x3 b (some (.int (s : Int))) (some (sd (.part x y)))), [.L (rs ++ [prD (s, b)]), .DI (ks ++ [(s : Int)]), .L (ds ++ [.int (y : Int)] ++ [.int (x : Int)])]) := by
  have hs : s < N.length := (List.getElem?_eq_some_iff.mp hN).1
  have hNs := (List.getElem?_eq_some_iff.mp hN).2
  have hp := l_put rs ks ds s hk h
  have a0 := l_app0 rs (ks ++ [(s : Int)]) ds
  have a1 := l_app0' rs (ks ++ [(s : Int)]) ds (prD (s, b)) hr rfl
  have a2 := l_app2 (rs ++ [prD (s, b)]) (ks ++ [(s : Int)])
  have a3 := l_app2' (rs ++ [prD (s, b)]) (ks ++ [(s : Int)]) ds (.int (y : Int)) (by omega) rfl
  have a4 := l_app2' (rs ++ [prD (s, b)]) (ks ++ [(s : Int)]) (ds ++ [.int (y : Int)]) (.int (x : Int)) (by simp; omega) rfl
  simp only [prD] at a1 a2 a3 a4 ⊢
  generalize hRS : rs ++ [D.tup [.int (s : Int), .int (b : Int)]] = RS at *
  generalize hKS : ks ++ [(s : Int)] = KS at *
  simp [c_p_led_in_1, lEnv, l_pop, l_rz1, l_in, h, hp, a0, a1, netD, pos, hs, hNs, sd, a2, a3]
  simp at a4
  simp [a4]
end
theorem led_loop {N : List St} {n0 p b : Nat} {x3 : Option D} (hb : b ≤ p) (hc : ∀ x ∈ N, Cl N.length x) (hN : N.length ≤ 1000000) :
    ∀ (M : Nat) (row : Row) (W : List Nat) (x6 x7 : Option D), 3 * un N row + W.length ≤ M → (∀ s ∈ W, s < N.length) → RowOk N p row → ended N row = false → W.length ≤ 2 * row.length + 1 →
      ∃ ds e', sWhile t_p_led_in_1 c_p_led_in_1 (lEnv n0 N x3 b x6 x7) [.L (rD row), .DI (sI row), .L (W.map fun (s : Nat) => .int (s : Int)).reverse] =
        .ok (cond (ended N (W.foldl (LedN N b) row)) (.rt (.bl true)) (.nx e'), [.L (rD (W.foldl (LedN N b) row)), .DI (sI (W.foldl (LedN N b) row)), .L ds]) := by
  intro M
  induction M with
  | zero =>
    intro row W x6 x7 hM _ _ he _
    have hW : W = [] := List.eq_nil_of_length_eq_zero (by omega)
    subst hW
    refine ⟨[], lEnv n0 N x3 b x6 x7, ?_⟩
    simp only [List.foldl_nil, he, cond]
    exact sWhile_false (l_test _ _ _ _ _ _ _ _ _ _)
  | succ M ih =>
    intro row W x6 x7 hM hW hr he hl
    cases W with
    | nil =>
      refine ⟨[], lEnv n0 N x3 b x6 x7, ?_⟩
      simp only [List.foldl_nil, he, cond]
      exact sWhile_false (l_test _ _ _ _ _ _ _ _ _ _)
    | cons s W =>
      have hsN := hW s List.mem_cons_self
      have hW' : ∀ t ∈ W, t < N.length := fun t ht => hW t (List.mem_cons_of_mem _ ht)
      have hst : (((s :: W).map fun (s : Nat) => D.int (s : Int)).reverse) = (W.map fun (s : Nat) => D.int (s : Int)).reverse ++ [.int (s : Int)] := by simp
      have ht := l_test (rD row) (sI row) ((W.map fun (s : Nat) => D.int (s : Int)).reverse ++ [.int (s : Int)]) (some (netD (n0, N))) (some (.own 0)) (some (.own 1)) x3 (some (.int (b : Int))) x6 x7
      rw [show (!((W.map fun (s : Nat) => D.int (s : Int)).reverse ++ [D.int (s : Int)]).isEmpty) = true by simp] at ht
      rw [List.length_cons] at hM hl
      rw [hst, List.foldl_cons]
      by_cases hk : s ∈ row.map (·.1)
      · rw [sWhile_true ht (.inr (l_skip (rD row) (sI row) _ s x6 x7 ((sI_mem s row).mpr hk)))]
        have e : LedN N b row s = row := Led_nil (.inr hk)
        rw [e]
        exact ih row W _ _ (by omega) hW' hr he (by omega)
      · have hk' : (s : Int) ∉ sI row := fun h => hk ((sI_mem s row).mp h)
        have hn : ¬ (ended N row = true ∨ s ∈ row.map (·.1)) := by rw [he]; simpa using hk
        have hu := un_snoc (b := b) hsN hk
        have hrl := hr.len
        have hul := un_le N row
        have h1 : (sI row).length < 16777216 := by unfold sI; rw [List.length_map]; omega
        have h2 : (rD row).length < 16777216 := by unfold rD; rw [List.length_map]; omega
        have h3 : ((W.map fun (s : Nat) => D.int (s : Int)).reverse).length < 16777000 := by simp; omega
        have r1 : rD row ++ [prD (s, b)] = rD (row ++ [(s, b)]) := by simp [rD]
        have k1 : sI row ++ [(s : Int)] = sI (row ++ [(s, b)]) := by simp [sI]
        have hr1 := hr.snoc hsN hb hk
        have hx : ∃ x, N[s]? = some x := ⟨_, List.getElem?_eq_getElem hsN⟩
        obtain ⟨x, hx⟩ := hx
        cases x with
        | fin =>
          have e : LedN N b row s = row ++ [(s, b)] := Led_leaf hn fun x y e => by rw [hx] at e; cases e
          have hen : ended N (row ++ [(s, b)]) = true := by rw [ended_snoc]; exact isFin_iff.mpr hx
          have hfo : ∀ W : List Nat, W.foldl (LedN N b) (row ++ [(s, b)]) = row ++ [(s, b)] := by
            intro W
            induction W with
            | nil => rfl
            | cons t W ihW => rw [List.foldl_cons, show LedN N b (row ++ [(s, b)]) t = row ++ [(s, b)] from Led_nil (.inl hen)]; exact ihW
          rw [sWhile_ret ht (l_fin (rD row) (sI row) _ s x6 x7 hk' h1 h2 hx), e, hfo, r1, k1]
          exact ⟨_, lEnv n0 N x3 b x6 x7, by rw [hen]; rfl⟩
        | take q z n =>
          have e : LedN N b row s = row ++ [(s, b)] := Led_leaf hn fun x y e => by rw [hx] at e; cases e
          have hen : ended N (row ++ [(s, b)]) = false := by
            rw [ended_snoc]
            cases h : isFin N s with
            | false => rfl
            | true => rw [isFin_iff.mp h] at hx; cases hx
          rw [sWhile_true ht (.inl (l_take (rD row) (sI row) _ s n q z x6 x7 hk' h1 h2 hx)), e, r1, k1]
          exact ih _ W _ _ (by omega) hW' hr1 hen (by rw [List.length_append, List.length_singleton]; omega)
        | part x y =>
          have hcl : x < N.length ∧ y < N.length := hc _ (List.mem_of_getElem? hx)
          have hen : ended N (row ++ [(s, b)]) = false := by
            rw [ended_snoc]
            cases h : isFin N s with
            | false => rfl
            | true => rw [isFin_iff.mp h] at hx; cases hx
          rw [sWhile_true ht (.inl (l_part (rD row) (sI row) _ s x y x6 x7 hk' h1 h2 h3 hx)), LedN_part hn hx, r1, k1]
          have := ih (row ++ [(s, b)]) (x :: y :: W) (some (.int (s : Int))) (some (sd (.part x y))) (by simp only [List.length_cons]; omega) (fun t ht => by
            rcases List.mem_cons.mp ht with rfl | ht
            · exact hcl.1
            · rcases List.mem_cons.mp ht with rfl | ht
              · exact hcl.2
              · exact hW' t ht) hr1 hen (by rw [List.length_append, List.length_singleton]; simp only [List.length_cons]; omega)
          simpa using this
/-- led_in as it is called -/
theorem led_in {N : List St} {n0 p b s : Nat} {row : Row} (hb : b ≤ p) (hc : ∀ x ∈ N, Cl N.length x) (hN : N.length ≤ 1000000) (hs : s < N.length) (hr : RowOk N p row) (he : ended N row = false) :
    f_p_led_in [netD (n0, N), .own 0, .own 1, .int (s : Int), .int (b : Int)] [.L (rD row), .DI (sI row)] =
      .ok (.bl (ended N (LedN N b row s)), [.L (rD (LedN N b row s)), .DI (sI (LedN N b row s))]) := by
  obtain ⟨ds, e', h⟩ := led_loop (n0 := n0) (x3 := some (.int (s : Int))) hb hc hN _ row [s] none none (Nat.le_refl _) (by simpa using hs) hr he (by simp)
  have h : sWhile t_p_led_in_1 c_p_led_in_1 (lEnv n0 N (some (.int (s : Int))) b none none) [.L (rD row), .DI (sI row), .L [.int (s : Int)]] = .ok (cond (ended N (LedN N b row s)) (.rt (.bl true)) (.nx e'), [.L (rD (LedN N b row s)), .DI (sI (LedN N b row s)), .L ds]) := h
  have hnd : netD (n0, N) = .tup [.int (n0 : Int), .lst (N.map sd)] := rfl
  simp only [lEnv] at h
  rw [hnd] at h ⊢
  generalize LedN N b row s = R at *
  cases hE : ended N R with
  | true =>
    simp only [hE, cond] at h
    simp [f_p_led_in, runG_eq, b_p_led_in, h]
  | false =>
    simp only [hE, cond] at h
    simp [f_p_led_in, runG_eq, b_p_led_in, h]
end Mt
end
section
namespace Mt
open Mini Bd
def lastB (row : Row) : Nat := match row.getLast? with
  | some v => v.2
  | none => 0
def Beh1 (N : List St) (c : Nat) (row : Row) (v : Nat × Nat) : Row := match N[v.1]? with
  | some (.take b z n) => if takes b z c = true then LedN N v.2 row n else row
  | _ => row
def RowB (N : List St) (n0 : Nat) (before : Row) (c p : Nat) (op : Bool) : Row := cond op (LedN N p (before.foldl (Beh1 N c) []) n0) (before.foldl (Beh1 N c) [])
theorem Led_last {N : List St} {b f : Nat} {row : Row} {s : Nat} (h : ended N row = false) (h2 : ended N (Led N b f row s) = true) : lastB (Led N b f row s) = b := by
  obtain ⟨m, e, q⟩ := Led_pre N b f row s
  rw [e] at h2 ⊢
  rcases List.eq_nil_or_concat m with hm | ⟨ini, x, hm⟩
  · rw [hm, List.append_nil, h] at h2; cases h2
  · rw [List.concat_eq_append] at hm
    have := q x (by rw [hm]; simp)
    rw [hm, ← List.append_assoc]
    unfold lastB
    rw [List.getLast?_concat]
    exact this
theorem Beh1_ended {N : List St} {c : Nat} {row : Row} {v : Nat × Nat} (h : ended N row = true) : Beh1 N c row v = row := by
  unfold Beh1
  split
  · split
    · exact Led_nil (.inl h)
    · rfl
  · rfl
theorem foldBeh_ended {N : List St} {c : Nat} : ∀ (before : Row) (row : Row), ended N row = true → before.foldl (Beh1 N c) row = row
  | [], row, _ => rfl
  | v :: before, row, h => by rw [List.foldl_cons, Beh1_ended h]; exact foldBeh_ended before row h
theorem Beh1_ok {N : List St} {c p : Nat} (hc : ∀ x ∈ N, Cl N.length x) {row : Row} {v : Nat × Nat} (h : RowOk N p row) (hv : v.2 ≤ p) : RowOk N p (Beh1 N c row v) := by
  unfold Beh1
  split
  · rename_i b z n e
    have hn : n < N.length := hc _ (List.mem_of_getElem? e)
    split
    · exact Led_ok hv hc _ _ _ h hn
    · exact h
  · exact h
theorem foldBeh_ok {N : List St} {c p : Nat} (hc : ∀ x ∈ N, Cl N.length x) : ∀ (before : Row) (row : Row), RowOk N p row → (∀ v ∈ before, v.2 ≤ p) → RowOk N p (before.foldl (Beh1 N c) row)
  | [], row, h, _ => h
  | v :: before, row, h, hb => foldBeh_ok hc before _ (Beh1_ok hc h (hb v List.mem_cons_self)) fun u hu => hb u (List.mem_cons_of_mem _ hu)
theorem RowB_ok {N : List St} {n0 c p : Nat} {op : Bool} (hc : ∀ x ∈ N, Cl N.length x) (h0 : n0 < N.length) {before : Row} (hb : ∀ v ∈ before, v.2 ≤ p) : RowOk N p (RowB N n0 before c p op) := by
  have := foldBeh_ok (c := c) hc before [] (RowOk.nil N p) hb
  unfold RowB
  cases op
  · exact this
  · exact Led_ok (Nat.le_refl _) hc _ _ _ this h0
theorem free_prD (v : Nat × Nat) : free (prD v) = true := rfl
theorem freeL_rD : ∀ row : Row, freeL (rD row) = true
  | [] => rfl
  | v :: row => by unfold rD; rw [List.map_cons, freeL, free_prD]; exact freeL_rD row
abbrev rEnv (n0 : Nat) (N : List St) (x1 sg x3 x4 x7 x8 : Option D) : Env := [some (netD (n0, N)), x1, sg, x3, x4, some (.own 0), some (.own 1), x7, x8]
theorem r_step {N : List St} {n0 p c : Nat} {x1 x3 x4 x8 : Option D} (hc : ∀ x ∈ N, Cl N.length x) (hN : N.length ≤ 1000000) {row : Row} {v : Nat × Nat} (hv : v.1 < N.length) (hv2 : v.2 ≤ p) (hr : RowOk N p row) (he : ended N row = false) :
    ∃ x8', c_p_row_behind_1 (rEnv n0 N x1 (some (.str [c])) x3 x4 (some (prD v)) x8) [.L (rD row), .DI (sI row)] =
      .ok (cond (ended N (Beh1 N c row v)) (.rt (.tup [.own 0, .int (lastB (Beh1 N c row v) : Int)])) (.nx (rEnv n0 N x1 (some (.str [c])) x3 x4 (some (prD v)) x8')), [.L (rD (Beh1 N c row v)), .DI (sI (Beh1 N c row v))]) := by
  obtain ⟨x, hx⟩ : ∃ x, N[v.1]? = some x := ⟨_, List.getElem?_eq_getElem hv⟩
  have hNs := (List.getElem?_eq_some_iff.mp hx).2
  refine ⟨some (sd x), ?_⟩
  obtain ⟨s, b⟩ := v
  simp only at hv hv2 hx hNs
  cases x with
  | fin =>
    have e : Beh1 N c row (s, b) = row := by unfold Beh1; simp only [hx]
    rw [e, he]
    simp [c_p_row_behind_1, rEnv, netD, prD, pos, hv, hNs, sd]
  | part a d =>
    have e : Beh1 N c row (s, b) = row := by unfold Beh1; simp only [hx]
    rw [e, he]
    simp [c_p_row_behind_1, rEnv, netD, prD, pos, hv, hNs, sd]
  | take q z n =>
    have htk := p_takes q z c
    have hn : n < N.length := hc _ (List.mem_of_getElem? hx)
    cases ht : takes q z c with
    | false =>
      have e : Beh1 N c row (s, b) = row := by unfold Beh1; simp [hx, ht]
      rw [ht] at htk
      rw [e, he]
      simp [c_p_row_behind_1, rEnv, netD, prD, pos, hv, hNs, sd, htk]
    | true =>
      have e : Beh1 N c row (s, b) = LedN N b row n := by unfold Beh1; simp [hx, ht]
      have hld := led_in (n0 := n0) hv2 hc hN hn hr he
      have hlast := Led_last (b := b) (f := N.length + 1) (s := n) he
      rw [ht] at htk
      rw [e]
      generalize hR : LedN N b row n = R at *
      have hlast : ended N R = true → lastB R = b := by rw [← hR]; exact hlast
      unfold netD at hld
      cases hE : ended N R with
      | false =>
        rw [hE] at hld
        simp [c_p_row_behind_1, rEnv, netD, prD, pos, hv, hNs, sd, htk, hld]
      | true =>
        rw [hE] at hld
        rw [hlast hE]
        simp [c_p_row_behind_1, rEnv, netD, prD, pos, hv, hNs, sd, htk, hld]
theorem r_loop {N : List St} {n0 p c : Nat} {x1 x3 x4 : Option D} (hc : ∀ x ∈ N, Cl N.length x) (hN : N.length ≤ 1000000) : ∀ (before row : Row) (x7 x8 : Option D), (∀ v ∈ before, v.1 < N.length ∧ v.2 ≤ p) → RowOk N p row → ended N row = false →
    ∃ x7' x8', forF 7 c_p_row_behind_1 (rD before) (rEnv n0 N x1 (some (.str [c])) x3 x4 x7 x8) [.L (rD row), .DI (sI row)] =
      .ok (cond (ended N (before.foldl (Beh1 N c) row)) (.rt (.tup [.own 0, .int (lastB (before.foldl (Beh1 N c) row) : Int)])) (.nx (rEnv n0 N x1 (some (.str [c])) x3 x4 x7' x8')), [.L (rD (before.foldl (Beh1 N c) row)), .DI (sI (before.foldl (Beh1 N c) row))])
  | [], row, x7, x8, _, _, he => ⟨x7, x8, by simp [forF, rD, he]⟩
  | v :: before, row, x7, x8, hb, hr, he => by
    have hv := hb v List.mem_cons_self
    obtain ⟨x8', h1⟩ := r_step (n0 := n0) (c := c) (x1 := x1) (x3 := x3) (x4 := x4) (x8 := x8) hc hN hv.1 hv.2 hr he
    have hr1 := Beh1_ok (c := c) hc hr hv.2
    have e0 : rD (v :: before) = prD v :: rD before := rfl
    rw [List.foldl_cons, e0, forF]
    have h1 : c_p_row_behind_1 ((rEnv n0 N x1 (some (.str [c])) x3 x4 x7 x8).set 7 (some (prD v))) [.L (rD row), .DI (sI row)] = _ := h1
    rw [h1]
    cases hE : ended N (Beh1 N c row v) with
    | true =>
      rw [foldBeh_ended before _ hE, hE]
      exact ⟨none, none, rfl⟩
    | false =>
      obtain ⟨y7, y8, h2⟩ := r_loop hc hN before (Beh1 N c row v) (some (prD v)) x8' (fun u hu => hb u (List.mem_cons_of_mem _ hu)) hr1 hE
      exact ⟨y7, y8, h2⟩
/-- where an end was come to: the begin -/
def bgD (N : List St) (row : Row) : D := cond (ended N row) (.int (lastB row : Int)) .non
theorem row_behind {N : List St} {n0 p c : Nat} {op : Bool} {sg : D} {before : Row} (hc : ∀ x ∈ N, Cl N.length x) (h0 : n0 < N.length) (hN : N.length ≤ 1000000) (hb : ∀ v ∈ before, v.1 < N.length ∧ v.2 ≤ p) (hs : before = [] ∨ sg = .str [c]) :
    f_p_row_behind [netD (n0, N), .lst (rD before), sg, .int (p : Int), .bl op] = .ok (.tup [.lst (rD (RowB N n0 before c p op)), bgD N (RowB N n0 before c p op)]) := by
  have hnil : ended N [] = false := rfl
  have hloop : ∃ x7' x8', forF 7 c_p_row_behind_1 (rD before) (rEnv n0 N (some (.lst (rD before))) (some sg) (some (.int (p : Int))) (some (.bl op)) none none) [.L [], .DI []] =
      .ok (cond (ended N (before.foldl (Beh1 N c) [])) (.rt (.tup [.own 0, .int (lastB (before.foldl (Beh1 N c) []) : Int)])) (.nx (rEnv n0 N (some (.lst (rD before))) (some sg) (some (.int (p : Int))) (some (.bl op)) x7' x8')), [.L (rD (before.foldl (Beh1 N c) [])), .DI (sI (before.foldl (Beh1 N c) []))]) := by
    rcases hs with rfl | rfl
    · exact ⟨none, none, by simp [forF, rD, hnil, sI]⟩
    · exact r_loop hc hN before [] none none hb (RowOk.nil N p) hnil
  obtain ⟨x7, x8, hloop⟩ := hloop
  have hr := foldBeh_ok (c := c) hc before [] (RowOk.nil N p) fun v hv => (hb v hv).2
  unfold RowB
  generalize hQ : before.foldl (Beh1 N c) [] = Q at *
  generalize hBD : rD before = BD at *
  cases hE : ended N Q with
  | true =>
    have hld : LedN N p Q n0 = Q := Led_nil (.inl hE)
    rw [hE] at hloop
    rw [hld, show cond op Q Q = Q by cases op <;> rfl]
    unfold bgD
    rw [hE]
    simp only [rEnv, cond] at hloop ⊢
    unfold netD at hloop ⊢
    simp [f_p_row_behind, run_eq, b_p_row_behind, hloop]
  | false =>
    rw [hE] at hloop
    have hld := led_in (n0 := n0) (Nat.le_refl p) hc hN h0 hr hE
    have hlast := Led_last (b := p) (f := N.length + 1) (s := n0) hE
    cases op with
    | false =>
      unfold bgD
      simp only [rEnv, cond, hE] at hloop ⊢
      unfold netD at hloop ⊢
      simp [f_p_row_behind, run_eq, b_p_row_behind, hloop]
    | true =>
      generalize hR : LedN N p Q n0 = R at *
      have hlast : ended N R = true → lastB R = p := by rw [← hR]; exact hlast
      unfold bgD
      simp only [rEnv, cond] at hloop ⊢
      unfold netD at hloop hld ⊢
      cases hE2 : ended N R with
      | false =>
        rw [hE2] at hld
        simp [f_p_row_behind, run_eq, b_p_row_behind, hloop, pos, hld]
      | true =>
        rw [hE2] at hld
        rw [hlast hE2]
        simp [f_p_row_behind, run_eq, b_p_row_behind, hloop, pos, hld]
end Mt
end
section
namespace Mt
open Mini Bd
/-- the row ahead and the match, before place k is swept -/
def swS (N : List St) (n0 : Nat) (w : List Nat) : Nat → Row × Option (Nat × Nat)
  | 0 => ([], none)
  | k + 1 => (RowB N n0 (swS N n0 w k).1 (at0 w (k - 1)) k (swS N n0 w k).2.isNone, cond (ended N (RowB N n0 (swS N n0 w k).1 (at0 w (k - 1)) k (swS N n0 w k).2.isNone)) (some (lastB (RowB N n0 (swS N n0 w k).1 (at0 w (k - 1)) k (swS N n0 w k).2.isNone), k)) (swS N n0 w k).2)
/-- a match -/
def fD : Option (Nat × Nat) → D
  | none => .non
  | some (b, q) => .tup [.int (b : Int), .int ((q : Int) - (b : Int))]
def rowsL (N : List St) (n0 : Nat) (w : List Nat) (n : Nat) : List D := (List.range n).map fun k => .lst (rD (swS N n0 w (k + 1)).1)
theorem rowsL_succ (N : List St) (n0 : Nat) (w : List Nat) (n : Nat) : rowsL N n0 w (n + 1) = rowsL N n0 w n ++ [.lst (rD (swS N n0 w (n + 1)).1)] := by
  unfold rowsL
  rw [List.range_succ, List.map_append]
  rfl
theorem swS_ok {N : List St} {n0 : Nat} {w : List Nat} (hc : ∀ x ∈ N, Cl N.length x) (h0 : n0 < N.length) : ∀ k, RowOk N (k - 1) (swS N n0 w k).1
  | 0 => RowOk.nil N _
  | k + 1 => by
    have ih := swS_ok (w := w) hc h0 k
    exact RowB_ok hc h0 fun v hv => by have := ih.ge v hv; omega
theorem freeL_rowsL (N : List St) (n0 : Nat) (w : List Nat) : ∀ n, freeL (rowsL N n0 w n) = true
  | 0 => rfl
  | n + 1 => by
    have h := freeL_rowsL N n0 w n
    have app : ∀ xs ys : List D, freeL (xs ++ ys) = (freeL xs && freeL ys) := by
      intro xs ys
      induction xs with
      | nil => simp
      | cons x xs ih => simp [ih, Bool.and_assoc]
    rw [rowsL_succ, app, h]
    simp [freeL_rD]
abbrev swEnv (n0 : Nat) (N : List St) (w : List Nat) (k : Nat) (x5 x6 x7 : Option D) : Env := [some (netD (n0, N)), some (.str w), some (fD (swS N n0 w k).2), some (.own 0), some (.lst (rD (swS N n0 w k).1)), x5, x6, x7]
theorem fD_some (b q : Nat) : fD (some (b, q)) = .tup [.int (b : Int), .int ((q : Int) - (b : Int))] := rfl
theorem fD_is (o : Option (Nat × Nat)) : opIsB (fD o) .non = some o.isNone := by
  cases o with
  | none => rfl
  | some v => rfl
theorem sw_step {N : List St} {n0 : Nat} {w : List Nat} {x6 x7 : Option D} (hc : ∀ x ∈ N, Cl N.length x) (h0 : n0 < N.length) (hN : N.length ≤ 1000000) (hw : w.length ≤ 1000000) (k : Nat) (hk : k < w.length + 1) :
    ∃ x6' x7', c_p_sweep_1 (swEnv n0 N w k (some (.int (k : Int))) x6 x7) [.L (rowsL N n0 w k)] = .ok (.nx (swEnv n0 N w (k + 1) (some (.int (k : Int))) x6' x7'), [.L (rowsL N n0 w (k + 1))]) := by
  have hok := swS_ok (w := w) hc h0 k
  have hsg : ∃ sg : D, (mIf (tV (mOp opGt (mV 5) (mC (.int 0)))) (mOp opIx (mV 1) (mOp opSub (mV 5) (mC (.int 1)))) (mC (.str []))) (swEnv n0 N w k (some (.int (k : Int))) x6 x7) [.L (rowsL N n0 w k)] = .ok (sg, [.L (rowsL N n0 w k)]) ∧ ((swS N n0 w k).1 = [] ∨ sg = .str [at0 w (k - 1)]) ∧ ∃ z, sg = .str z := by
    by_cases h : 0 < k
    · have hix := opIx_str_nat [Ob.L (rowsL N n0 w k)] w (k - 1) (by omega) (by omega)
      rw [show ((k - 1 : Nat) : Int) = (k : Int) - 1 by omega] at hix
      exact ⟨.str [at0 w (k - 1)], by simp [swEnv, h, hix], .inr rfl, _, rfl⟩
    · have h : k = 0 := by omega
      subst h
      exact ⟨.str [], by simp [swEnv], .inl rfl, _, rfl⟩
  obtain ⟨sg, hsg, hsg2, z, hz⟩ := hsg
  have hrb := row_behind (n0 := n0) (p := k) (c := at0 w (k - 1)) (op := (swS N n0 w k).2.isNone) (sg := sg) (before := (swS N n0 w k).1) hc h0 hN (fun v hv => ⟨hok.lt v hv, by have := hok.ge v hv; omega⟩) hsg2
  have his := fD_is (swS N n0 w k).2
  have hrl : (rowsL N n0 w k).length = k := by unfold rowsL; simp
  have a0 : ∀ a e, kApp a e (.ok (.own 0, [Ob.L (rowsL N n0 w k)])) = kApp2 0 (a e [.L (rowsL N n0 w k)]) := fun a e => kApp_ok rfl
  have a1 : kApp2 0 (.ok (.lst (rD (swS N n0 w (k + 1)).1), [Ob.L (rowsL N n0 w k)])) = .ok (.non, [.L (rowsL N n0 w k ++ [.lst (rD (swS N n0 w (k + 1)).1)])]) := kApp2_ok rfl (by omega) (by simp [freeL_rD])
  rw [← rowsL_succ] at a1
  have e1 : (swS N n0 w (k + 1)).1 = RowB N n0 (swS N n0 w k).1 (at0 w (k - 1)) k (swS N n0 w k).2.isNone := rfl
  have e2 : (swS N n0 w (k + 1)).2 = cond (ended N (swS N n0 w (k + 1)).1) (some (lastB (swS N n0 w (k + 1)).1, k)) (swS N n0 w k).2 := rfl
  rw [← e1] at hrb
  have e3 : bgD N (swS N n0 w (k + 1)).1 = cond (ended N (swS N n0 w (k + 1)).1) (.int (lastB (swS N n0 w (k + 1)).1 : Int)) .non := rfl
  have hfz : rz [Ob.L (rowsL N n0 w k)] (fD (swS N n0 w k).2) = fD (swS N n0 w k).2 := by
    cases (swS N n0 w k).2 <;> rfl
  rw [e3] at hrb
  have hfr : freeL (rD (swS N n0 w k).1) = true := freeL_rD _
  have hfz2 : free (fD (swS N n0 w k).2) = true := by cases (swS N n0 w k).2 <;> rfl
  have hfn : freeL [netD (n0, N)] = true := by simp [netD, freeL_sd]
  refine ⟨some sg, some (.tup [.lst (rD (swS N n0 w (k + 1)).1), cond (ended N (swS N n0 w (k + 1)).1) (.int (lastB (swS N n0 w (k + 1)).1 : Int)) .non]), ?_⟩
  simp only [swEnv] at hsg ⊢
  rw [e2]
  generalize swS N n0 w k = S0 at *
  generalize (swS N n0 w (k + 1)).1 = R1 at *
  generalize rowsL N n0 w k = RL at *
  generalize rowsL N n0 w (k + 1) = RL1 at *
  subst hz
  have hne : netD (n0, N) = .tup [.int (n0 : Int), .lst (N.map sd)] := rfl
  rw [hne] at hsg hrb ⊢
  cases hE : ended N R1 with
  | true =>
    rw [hE] at hrb
    simp only [cond] at hrb ⊢
    simp [c_p_sweep_1, hsg, his, hfz, hrb, a0, a1, pos, fD_some, hfr, freeL_sd, hfz2, -mIf_eq]
  | false =>
    rw [hE] at hrb
    simp only [cond] at hrb ⊢
    simp [c_p_sweep_1, hsg, his, hfz, hrb, a0, a1, pos, hfr, freeL_sd, hfz2, -mIf_eq]
theorem sweep {N : List St} {n0 : Nat} {w : List Nat} (hc : ∀ x ∈ N, Cl N.length x) (h0 : n0 < N.length) (hN : N.length ≤ 1000000) (hw : w.length ≤ 1000000) :
    f_p_sweep [netD (n0, N), .str w] = .ok (.tup [.lst (rowsL N n0 w (w.length + 1)), fD (swS N n0 w (w.length + 1)).2]) := by
  have hk := kR1_nat (j := w.length + 1) (s := [Ob.L []]) (by omega)
  simp only [Int.natCast_add, Int.cast_ofNat_Int] at hk
  obtain ⟨e', s', hf, ⟨x5, x6, x7, rfl⟩, rfl⟩ := forF_inv (i := 5) (b := c_p_sweep_1)
    (fun j e s => (∃ x5 x6 x7, e = swEnv n0 N w j x5 x6 x7) ∧ s = [.L (rowsL N n0 w j)])
    (rng 0 (w.length + 1)) 0 (swEnv n0 N w 0 none none none) [.L (rowsL N n0 w 0)] ⟨⟨none, none, none, rfl⟩, rfl⟩ (fun k e s d hi' hd => by
      obtain ⟨⟨x5, x6, x7, rfl⟩, rfl⟩ := hi'
      obtain ⟨h4, rfl⟩ := rng_at hd
      rw [Int.zero_add, Nat.zero_add] at *
      obtain ⟨x6', x7', hb⟩ := sw_step (x6 := x6) (x7 := x7) hc h0 hN hw k h4
      exact ⟨_, _, .inl hb, ⟨_, _, _, rfl⟩, rfl⟩)
  rw [rng_len, Nat.zero_add] at hf
  have e0 : rowsL N n0 w 0 = [] := rfl
  have e1 : swEnv n0 N w 0 none none none = [some (netD (n0, N)), some (.str w), some .non, some (.own 0), some (.lst []), none, none, none] := rfl
  rw [e0, e1] at hf
  have hrl : (rowsL N n0 w (w.length + 1)).length = w.length + 1 := by unfold rowsL; simp
  have hfr := freeL_rowsL N n0 w (w.length + 1)
  have hfd := frz_free 0 [Ob.L (rowsL N n0 w (w.length + 1))] (fD (swS N n0 w (w.length + 1)).2) (by cases (swS N n0 w (w.length + 1)).2 <;> rfl)
  generalize rowsL N n0 w (w.length + 1) = RL at *
  simp only [swEnv] at hf
  generalize swS N n0 w (w.length + 1) = S1 at *
  have hne : netD (n0, N) = .tup [.int (n0 : Int), .lst (N.map sd)] := rfl
  rw [hne] at hf ⊢
  simp [f_p_sweep, run_eq, b_p_sweep, show w.length ≤ 16777216 by omega, hk, hf, hfd]
end Mt
end
section
namespace Mt
open Mini Bd
/-! the match that sweeping finds -/
section
variable (N : List St) (w : List Nat)
noncomputable def Xs (p s b : Nat) : Row := (Lf N w (s, p)).map fun q => (b, q)
noncomputable def leaf (p : Nat) (v : Nat × Nat) : Row := match N[v.1]? with
  | some .fin => [(v.2, p)]
  | some (.take _ _ _) => Xs N w p v.1 v.2
  | _ => []
noncomputable def full (p : Nat) (row : Row) : Row := row.flatMap (leaf N w p)
noncomputable def candv (p : Nat) (v : Nat × Nat) : Row := match N[v.1]? with
  | some (.take _ _ _) => Xs N w p v.1 v.2
  | _ => []
noncomputable def cand (p : Nat) (row : Row) : Row := row.flatMap (candv N w p)
variable {N w}
theorem full_app (p : Nat) (a b : Row) : full N w p (a ++ b) = full N w p a ++ full N w p b := by unfold full; rw [List.flatMap_append]
theorem Xs_nil {p s b : Nat} : Xs N w p s b = [] ↔ Lf N w (s, p) = [] := by unfold Xs; simp
theorem head_ne {α : Type} {xs ys : List α} (h : xs.head? = ys.head?) (hy : ys ≠ []) : xs ≠ [] := by
  intro hx
  rw [hx] at h
  cases ys with
  | nil => exact hy rfl
  | cons y ys => simp at h
theorem ended_full {p : Nat} {row : Row} (h : ended N row = true) : full N w p row ≠ [] := by
  unfold ended at h
  split at h
  · rename_i v hv
    have hm := List.mem_of_getLast? hv
    intro h0
    have := (List.flatMap_eq_nil_iff.mp h0) v hm
    unfold leaf at this
    rw [isFin_iff.mp h] at this
    simp at this
  · cases h
theorem led_head {p : Nat} (b : Nat) : ∀ (f : Nat) (row : Row) (s : Nat), un N row < f → Dv N w (s, p) → (∀ v ∈ row, rk N w (v.1, p) ≤ rk N w (s, p) → Lf N w (v.1, p) ≠ [] → full N w p row ≠ []) →
    (full N w p (Led N b f row s)).head? = (full N w p row ++ Xs N w p s b).head? ∧ ∀ v ∈ Led N b f row s, v ∈ row ∨ (Lf N w (v.1, p) ≠ [] → Lf N w (s, p) ≠ []) := by
  intro f
  induction f with
  | zero => intro row s h; omega
  | succ f ih =>
    intro row s hf hD hI
    by_cases hn : ended N row = true ∨ s ∈ row.map (·.1)
    · rw [Led_nil hn]
      refine ⟨?_, fun v hv => .inl hv⟩
      by_cases hL : Lf N w (s, p) = []
      · rw [Xs_nil.mpr hL, List.append_nil]
      · have hne : full N w p row ≠ [] := by
          rcases hn with hn | hn
          · exact ended_full hn
          · obtain ⟨v, hv, rfl⟩ := List.mem_map.mp hn
            exact hI v hv (Nat.le_refl _) hL
        cases hfu : full N w p row with
        | nil => exact absurd hfu hne
        | cons x xs => rfl
    · by_cases hp : ∃ x y, N[s]? = some (.part x y)
      · obtain ⟨x, y, hp⟩ := hp
        obtain ⟨d1, d2, r1, r2, hL⟩ := hD.part hp
        have hu := un_snoc (b := b) hD.lt fun h2 => hn (.inr h2)
        have hfull : full N w p (row ++ [(s, b)]) = full N w p row := by
          rw [full_app]
          have : full N w p [(s, b)] = [] := by unfold full leaf; simp [hp]
          rw [this, List.append_nil]
        have hI1 : ∀ v ∈ row ++ [(s, b)], rk N w (v.1, p) ≤ rk N w (x, p) → Lf N w (v.1, p) ≠ [] → full N w p (row ++ [(s, b)]) ≠ [] := fun v hv hr hl => by
          rw [hfull]
          rcases List.mem_append.mp hv with hv | hv
          · exact hI v hv (by omega) hl
          · rw [List.mem_singleton.mp hv] at hr
            simp only at hr
            omega
        obtain ⟨e1, q1⟩ := ih (row ++ [(s, b)]) x (by omega) d1 hI1
        have hu2 := un_Led N b f (row ++ [(s, b)]) x
        have hI2 : ∀ v ∈ Led N b f (row ++ [(s, b)]) x, rk N w (v.1, p) ≤ rk N w (y, p) → Lf N w (v.1, p) ≠ [] → full N w p (Led N b f (row ++ [(s, b)]) x) ≠ [] := fun v hv hr hl => by
          rcases q1 v hv with hv | hv
          · rcases List.mem_append.mp hv with hv | hv
            · have := hI v hv (by omega) hl
              refine head_ne e1 ?_
              rw [hfull]
              simp [this]
            · rw [List.mem_singleton.mp hv] at hr
              simp only at hr
              omega
          · refine head_ne e1 ?_
            have := hv hl
            have hx : Xs N w p x b ≠ [] := fun h => this (Xs_nil.mp h)
            simp [hx]
        obtain ⟨e2, q2⟩ := ih (Led N b f (row ++ [(s, b)]) x) y (by omega) d2 hI2
        rw [Led_part hn hp]
        have hX : Xs N w p s b = Xs N w p x b ++ Xs N w p y b := by unfold Xs; rw [hL, List.map_append]
        refine ⟨?_, fun v hv => ?_⟩
        · rw [e2, hX, ← List.append_assoc, List.head?_append, e1, hfull, ← List.head?_append]
        · rcases q2 v hv with hv | hv
          · rcases q1 v hv with hv | hv
            · rcases List.mem_append.mp hv with hv | hv
              · exact .inl hv
              · rw [List.mem_singleton.mp hv]; exact .inr id
            · refine .inr fun h => ?_
              rw [hL]; simp [hv h]
          · refine .inr fun h => ?_
            rw [hL]; simp [hv h]
      · rw [Led_leaf hn fun x y e => hp ⟨x, y, e⟩]
        refine ⟨?_, fun v hv => ?_⟩
        · rw [full_app]
          congr 1
          congr 1
          obtain ⟨x, hx⟩ : ∃ x, N[s]? = some x := ⟨_, List.getElem?_eq_getElem hD.lt⟩
          unfold full leaf Xs
          cases x with
          | fin => simp [hx, Dv.fin hx]
          | take q z n => simp [hx, Xs]
          | part x y => exact absurd ⟨x, y, hx⟩ hp
        · rcases List.mem_append.mp hv with hv | hv
          · exact .inl hv
          · rw [List.mem_singleton.mp hv]; exact .inr id
theorem led_dv {p : Nat} (b : Nat) : ∀ (f : Nat) (row : Row) (s : Nat), Dv N w (s, p) → (∀ v ∈ row, Dv N w (v.1, p)) → ∀ v ∈ Led N b f row s, Dv N w (v.1, p)
  | 0, row, s, _, hr => hr
  | f + 1, row, s, hD, hr => by
    by_cases hn : ended N row = true ∨ s ∈ row.map (·.1)
    · rw [Led_nil hn]; exact hr
    · have hr1 : ∀ v ∈ row ++ [(s, b)], Dv N w (v.1, p) := fun v hv => by
        rcases List.mem_append.mp hv with hv | hv
        · exact hr v hv
        · rw [List.mem_singleton.mp hv]; exact hD
      by_cases hp : ∃ x y, N[s]? = some (.part x y)
      · obtain ⟨x, y, hp⟩ := hp
        obtain ⟨d1, d2, _⟩ := hD.part hp
        rw [Led_part hn hp]
        exact led_dv b f _ y d2 (led_dv b f _ x d1 hr1)
      · rw [Led_leaf hn fun x y e => hp ⟨x, y, e⟩]; exact hr1
/-- an end stands last, if anywhere -/
def Fo (N : List St) (row : Row) : Prop := ∀ ini v, row = ini ++ [v] → ∀ u ∈ ini, isFin N u.1 = false
theorem Fo.snoc {row : Row} (h : Fo N row) (he : ended N row = false) (v : Nat × Nat) : Fo N (row ++ [v]) := by
  intro ini u e x hx
  have e' := List.append_inj' e rfl
  rw [← e'.1] at hx
  rcases List.eq_nil_or_concat row with h0 | ⟨ri, rl, h0⟩
  · rw [h0] at hx; simp at hx
  · rw [List.concat_eq_append] at h0
    rw [h0] at hx
    rcases List.mem_append.mp hx with hx | hx
    · exact h ri rl h0 x hx
    · rw [h0, ended_snoc] at he
      rw [List.mem_singleton.mp hx]; exact he
theorem led_fo (b : Nat) : ∀ (f : Nat) (row : Row) (s : Nat), Fo N row → Fo N (Led N b f row s)
  | 0, row, s, hr => hr
  | f + 1, row, s, hr => by
    by_cases hn : ended N row = true ∨ s ∈ row.map (·.1)
    · rw [Led_nil hn]; exact hr
    · have he : ended N row = false := by
        cases h : ended N row with
        | false => rfl
        | true => exact absurd (.inl h) hn
      by_cases hp : ∃ x y, N[s]? = some (.part x y)
      · obtain ⟨x, y, hp⟩ := hp
        rw [Led_part hn hp]
        exact led_fo b f _ y (led_fo b f _ x (hr.snoc he _))
      · rw [Led_leaf hn fun x y e => hp ⟨x, y, e⟩]; exact hr.snoc he _
theorem Fo.nil : Fo N [] := fun ini v e => by simp at e
theorem leaf_cand {p : Nat} {v : Nat × Nat} (hk : isFin N v.1 = false) : leaf N w p v = candv N w p v := by
  unfold leaf candv
  cases h : N[v.1]? with
  | none => rfl
  | some x =>
    cases x with
    | fin => rw [isFin_iff.mpr h] at hk; cases hk
    | take _ _ _ => rfl
    | part _ _ => rfl
theorem full_open {p : Nat} {row : Row} (hf : Fo N row) (he : ended N row = false) : full N w p row = cand N w p row := by
  unfold full cand
  have key : ∀ v ∈ row, isFin N v.1 = false := fun v hv => by
    rcases List.eq_nil_or_concat row with h0 | ⟨ri, rl, h0⟩
    · rw [h0] at hv; simp at hv
    · rw [List.concat_eq_append] at h0
      rw [h0] at hv
      rcases List.mem_append.mp hv with hv | hv
      · exact hf ri rl h0 v hv
      · rw [h0, ended_snoc] at he
        rw [List.mem_singleton.mp hv]; exact he
  have : ∀ v ∈ row, leaf N w p v = candv N w p v := fun v hv => leaf_cand (key v hv)
  clear hf he key
  induction row with
  | nil => rfl
  | cons v row ih => rw [List.flatMap_cons, List.flatMap_cons, this v List.mem_cons_self, ih fun u hu => this u (List.mem_cons_of_mem _ hu)]
theorem full_ended {p : Nat} {row : Row} (hf : Fo N row) (he : ended N row = true) : full N w p row = cand N w p row ++ [(lastB row, p)] := by
  rcases List.eq_nil_or_concat row with h0 | ⟨ri, rl, h0⟩
  · rw [h0] at he; cases he
  · rw [List.concat_eq_append] at h0
    rw [h0, ended_snoc] at he
    have hfi := isFin_iff.mp he
    have hri := hf ri rl h0
    have this : ∀ v ∈ ri, leaf N w p v = candv N w p v := fun v hv => leaf_cand (hri v hv)
    have h1 : ri.flatMap (leaf N w p) = ri.flatMap (candv N w p) := by
      clear h0 hri
      induction ri with
      | nil => rfl
      | cons v row ih => rw [List.flatMap_cons, List.flatMap_cons, this v List.mem_cons_self, ih fun u hu => this u (List.mem_cons_of_mem _ hu)]
    rw [h0]
    unfold full cand lastB
    rw [List.flatMap_append, List.flatMap_append, h1, List.getLast?_concat]
    simp [leaf, candv, hfi]
/-- nothing of worth is hidden -/
def InA (N : List St) (w : List Nat) (p : Nat) (row : Row) : Prop := ∀ v ∈ row, Lf N w (v.1, p) ≠ [] → full N w p row ≠ []
theorem led_top {p b : Nat} {row : Row} {s : Nat} (hD : Dv N w (s, p)) (hI : InA N w p row) : (full N w p (LedN N b row s)).head? = (full N w p row ++ Xs N w p s b).head? ∧ InA N w p (LedN N b row s) := by
  have hu := un_le N row
  obtain ⟨e, q⟩ := led_head (w := w) (p := p) b (N.length + 1) row s (by omega) hD fun v hv _ hl => hI v hv hl
  refine ⟨e, fun v hv hl => head_ne e ?_⟩
  rcases q v hv with h | h
  · simp [hI v h hl]
  · have : Xs N w p s b ≠ [] := fun h0 => h hl (Xs_nil.mp h0)
    simp [this]
theorem beh_head {p c : Nat} (hc : w[p]? = some c) : ∀ (before row : Row), (∀ v ∈ before, Dv N w (v.1, p)) → InA N w (p + 1) row → Fo N row → (∀ v ∈ row, Dv N w (v.1, p + 1)) →
    (full N w (p + 1) (before.foldl (Beh1 N c) row)).head? = (full N w (p + 1) row ++ cand N w p before).head? ∧ InA N w (p + 1) (before.foldl (Beh1 N c) row) ∧ Fo N (before.foldl (Beh1 N c) row) ∧ ∀ v ∈ before.foldl (Beh1 N c) row, Dv N w (v.1, p + 1)
  | [], row, _, hI, hf, hd => ⟨by simp [cand], hI, hf, hd⟩
  | v :: before, row, hb, hI, hf, hd => by
    have hv := hb v List.mem_cons_self
    have hb' : ∀ u ∈ before, Dv N w (u.1, p) := fun u hu => hb u (List.mem_cons_of_mem _ hu)
    rw [List.foldl_cons]
    have ec : cand N w p (v :: before) = candv N w p v ++ cand N w p before := by unfold cand; rw [List.flatMap_cons]
    by_cases ht : ∃ q z n, N[v.1]? = some (.take q z n) ∧ takes q z c = true
    · obtain ⟨q, z, n, hx, ht⟩ := ht
      have e : Beh1 N c row v = LedN N v.2 row n := by unfold Beh1; simp [hx, ht]
      obtain ⟨d1, _, hL⟩ := hv.go hx hc ht
      obtain ⟨g1, g2⟩ := led_top (b := v.2) d1 hI
      obtain ⟨k1, k2, k3, k4⟩ := beh_head hc before (LedN N v.2 row n) hb' g2 (led_fo _ _ _ _ hf) (led_dv _ _ _ _ d1 hd)
      have ev : candv N w p v = Xs N w (p + 1) n v.2 := by
        unfold candv
        rw [hx]
        simp only
        unfold Xs
        rw [hL]
      rw [e]
      refine ⟨?_, k2, k3, k4⟩
      rw [k1, ec, ev, ← List.append_assoc, List.head?_append, g1, ← List.head?_append]
    · have e : Beh1 N c row v = row := by
        unfold Beh1
        split
        · rename_i q z n hx
          rw [if_neg fun h => ht ⟨q, z, n, hx, h⟩]
        · rfl
      have ev : candv N w p v = [] := by
        unfold candv
        split
        · rename_i q z n hx
          refine Xs_nil.mpr (hv.no hx fun c' h => ?_)
          rw [hc] at h; cases h
          cases h2 : takes q z c with
          | false => rfl
          | true => exact absurd ⟨q, z, n, hx, h2⟩ ht
        · rfl
      rw [e, ec, ev, List.nil_append]
      exact beh_head hc before row hb' hI hf hd
end
end Mt
end
section
namespace Mt
open Mini Bd
section
variable (N : List St) (w : List Nat) (n0 : Nat)
/-- all matches from place k on, m places, best first -/
noncomputable def later : Nat → Nat → Row
  | 0, _ => []
  | m + 1, k => Xs N w k n0 k ++ later m (k + 1)
variable {N w n0}
theorem rowB_head {k c : Nat} {op : Bool} {before : Row} (hD : ∀ p, p ≤ w.length → Dv N w (n0, p)) (hk : k ≤ w.length) (hb : before = [] ∨ ∃ p, k = p + 1 ∧ w[p]? = some c ∧ ∀ v ∈ before, Dv N w (v.1, p)) :
    (full N w k (RowB N n0 before c k op)).head? = (cand N w (k - 1) before ++ cond op (Xs N w k n0 k) []).head? ∧ Fo N (RowB N n0 before c k op) ∧ ∀ v ∈ RowB N n0 before c k op, Dv N w (v.1, k) := by
  have h0 : InA N w k [] := fun v hv => by simp at hv
  have key : (full N w k (before.foldl (Beh1 N c) [])).head? = (cand N w (k - 1) before).head? ∧ InA N w k (before.foldl (Beh1 N c) []) ∧ Fo N (before.foldl (Beh1 N c) []) ∧ ∀ v ∈ before.foldl (Beh1 N c) [], Dv N w (v.1, k) := by
    rcases hb with rfl | ⟨p, rfl, hc, hv⟩
    · exact ⟨rfl, h0, Fo.nil, by simp⟩
    · have := beh_head hc before [] hv h0 Fo.nil (by simp)
      simpa [full] using this
  obtain ⟨k1, k2, k3, k4⟩ := key
  unfold RowB
  generalize before.foldl (Beh1 N c) [] = Q at *
  cases op with
  | false => exact ⟨by simpa using k1, k3, k4⟩
  | true =>
    obtain ⟨g1, _⟩ := led_top (b := k) (hD k hk) k2
    refine ⟨?_, led_fo _ _ _ _ k3, led_dv _ _ _ _ (hD k hk) k4⟩
    show (full N w k (LedN N k Q n0)).head? = (cand N w (k - 1) before ++ Xs N w k n0 k).head?
    rw [g1, List.head?_append, k1, ← List.head?_append]
theorem swS_head (hD : ∀ p, p ≤ w.length → Dv N w (n0, p)) : ∀ (k m : Nat), k + m = w.length + 1 →
    (later N w n0 (w.length + 1) 0).head? = ((cand N w (k - 1) (swS N n0 w k).1 ++ cond (swS N n0 w k).2.isNone (later N w n0 m k) []).head?).or (swS N n0 w k).2 ∧ ∀ v ∈ (swS N n0 w k).1, Dv N w (v.1, k - 1)
  | 0, m, h => by
    have : m = w.length + 1 := by omega
    subst this
    refine ⟨?_, by simp [swS]⟩
    simp [swS, cand]
  | k + 1, m, h => by
    obtain ⟨ih, ihd⟩ := swS_head hD k (m + 1) (by omega)
    have hb : (swS N n0 w k).1 = [] ∨ ∃ p, k = p + 1 ∧ w[p]? = some (at0 w (k - 1)) ∧ ∀ v ∈ (swS N n0 w k).1, Dv N w (v.1, p) := by
      cases k with
      | zero => exact .inl rfl
      | succ p =>
        refine .inr ⟨p, rfl, ?_, ihd⟩
        have hp : p < w.length := by omega
        simp [at0, hp]
    obtain ⟨g1, g2, g3⟩ := rowB_head (c := at0 w (k - 1)) (op := (swS N n0 w k).2.isNone) hD (by omega) hb
    have e1 : (swS N n0 w (k + 1)).1 = RowB N n0 (swS N n0 w k).1 (at0 w (k - 1)) k (swS N n0 w k).2.isNone := rfl
    have e2 : (swS N n0 w (k + 1)).2 = cond (ended N (swS N n0 w (k + 1)).1) (some (lastB (swS N n0 w (k + 1)).1, k)) (swS N n0 w k).2 := rfl
    rw [← e1] at g1 g2 g3
    refine ⟨?_, g3⟩
    rw [Nat.add_sub_cancel, e2]
    generalize (swS N n0 w (k + 1)).1 = R at *
    generalize swS N n0 w k = S at *
    obtain ⟨bf, F⟩ := S
    simp only at *
    rw [ih]
    cases F with
    | none =>
      simp only [Option.isNone_none, cond_true, Option.or_none] at g1 ⊢
      rw [later, ← List.append_assoc, List.head?_append, ← g1]
      cases hE : ended N R with
      | true =>
        rw [full_ended g2 hE]
        simp [List.head?_append]
      | false =>
        rw [full_open g2 hE]
        simp [List.head?_append]
    | some F =>
      simp only [Option.isNone_some, cond_false, List.append_nil] at g1 ⊢
      rw [← g1]
      cases hE : ended N R with
      | true =>
        rw [full_ended g2 hE]
        simp [List.head?_append]
      | false =>
        rw [full_open g2 hE]
        simp
/-- sweeping finds the first -/
theorem swS_found (hD : ∀ p, p ≤ w.length → Dv N w (n0, p)) : (swS N n0 w (w.length + 1)).2 = (later N w n0 (w.length + 1) 0).head? := by
  obtain ⟨h1, h2⟩ := swS_head hD (w.length + 1) 0 (by omega)
  have hc : cand N w (w.length + 1 - 1) (swS N n0 w (w.length + 1)).1 = [] := by
    refine List.flatMap_eq_nil_iff.mpr fun v hv => ?_
    unfold candv
    have hd := h2 v hv
    cases hx : N[v.1]? with
    | none => rfl
    | some x =>
      cases x with
      | fin => rfl
      | part _ _ => rfl
      | take q z n =>
        refine Xs_nil.mpr (hd.no hx fun c h => ?_)
        rw [Nat.add_sub_cancel, List.getElem?_eq_none (Nat.le_refl _)] at h
        cases h
  rw [h1, hc]
  cases (swS N n0 w (w.length + 1)).2.isNone <;> simp [later]
end
/-- the first match: the least place, and the best end -/
def firstM (w : List Nat) (t : Tr) : Nat → Nat → Option (Nat × Nat)
  | 0, _ => none
  | m + 1, k => match LT w t k with
    | [] => firstM w t m (k + 1)
    | q :: _ => some (k, q)
theorem later_first {w : List Nat} {t : Tr} {n0 : Nat} {N : List St} (h : NetFor w t n0 N) : ∀ (m k : Nat), k + m = w.length + 1 → (later N w n0 m k).head? = firstM w t m k
  | 0, k, _ => rfl
  | m + 1, k, hk => by
    have ih := later_first h m (k + 1) (by omega)
    rw [later, firstM]
    unfold Xs
    rw [h.lf k (by omega)]
    cases LT w t k with
    | nil => simpa using ih
    | cons q qs => rfl
/-- first match, all places -/
def firstT (w : List Nat) (t : Tr) : Option (Nat × Nat) := firstM w t (w.length + 1) 0
theorem NetFor.found {w : List Nat} {t : Tr} {n0 : Nat} {N : List St} (h : NetFor w t n0 N) : (swS N n0 w (w.length + 1)).2 = firstT w t := by
  rw [swS_found h.dv, later_first h _ _ (by omega)]
  rfl
end Mt
end
section
namespace Mt
open Mini Bd
theorem NetFor.swept {w : List Nat} {t : Tr} {n0 : Nat} {N : List St} (h : NetFor w t n0 N) (hs : sz t ≤ 4000) (hw : w.length ≤ 1000000) :
    f_p_swept [netD (n0, N), .str w] = .ok (fD (firstT w t)) := by
  have hlen := h.len
  have hsw := sweep (w := w) h.cl h.lt (by omega) hw
  rw [h.found] at hsw
  have hne : netD (n0, N) = .tup [.int (n0 : Int), .lst (N.map sd)] := rfl
  have hfd := frz_free 0 [] (fD (firstT w t)) (by cases firstT w t <;> rfl)
  rw [hne] at hsw ⊢
  simp [f_p_swept, run_eq, b_p_swept, hsw, pos, hfd]
end Mt
end
section
namespace Mt
open Mini Bd
/-! a text ahead -/
theorem shift_aux (u w : List Nat) : ∀ n t, hi t ≤ n → wf t = true → ∀ p, p ≤ w.length → LT (u ++ w) t (u.length + p) = (LT w t p).map (u.length + ·) := by
  intro n
  induction n with
  | zero => intro t h; cases t <;> rw [hi] at h <;> omega
  | succ n ih =>
    have row : ∀ ps : List Tr, hiL ps ≤ n → (∀ t ∈ ps, wf t = true) → ∀ p, p ≤ w.length → LR (u ++ w) ps (u.length + p) = (LR w ps p).map (u.length + ·) := by
      intro ps
      induction ps with
      | nil => intro _ _ p _; rw [LR, LR]; rfl
      | cons t ts ih2 =>
        intro h hw p hp
        rw [hiL] at h
        rw [LR, LR, ih t (by omega) (hw t List.mem_cons_self) p hp]
        have hle := LT_le (w := w) (hw t List.mem_cons_self) p
        generalize LT w t p = xs at *
        induction xs with
        | nil => rfl
        | cons q qs ihq =>
          rw [List.map_cons, List.flatMap_cons, List.flatMap_cons, List.map_append, ihq fun r hp hr => hle r hp (List.mem_cons_of_mem _ hr), ih2 (by omega) (fun x hx => hw x (List.mem_cons_of_mem _ hx)) q (hle q hp List.mem_cons_self)]
    have pick : ∀ ps : List Tr, hiL ps ≤ n → (∀ t ∈ ps, wf t = true) → ∀ p, p ≤ w.length → LP' (u ++ w) ps (u.length + p) = (LP' w ps p).map (u.length + ·) := by
      intro ps
      induction ps with
      | nil => intro _ _ p _; rw [LP', LP']; rfl
      | cons t ts ih2 =>
        intro h hw p hp
        rw [hiL] at h
        rw [LP', LP', ih t (by omega) (hw t List.mem_cons_self) p hp, ih2 (by omega) (fun x hx => hw x (List.mem_cons_of_mem _ hx)) p hp, List.map_append]
    intro t h hw p hp
    cases t with
    | take b z =>
      rw [LT, LT, List.getElem?_append_right (by omega), show u.length + p - u.length = p by omega]
      cases w[p]? with
      | none => rfl
      | some c =>
        simp only
        split
        · rfl
        · rfl
    | row ps => rw [hi] at h; rw [LT, LT]; exact row ps (by omega) (wf_row hw).2 p hp
    | pick ps => rw [hi] at h; rw [LT, LT]; exact pick ps (by omega) (wf_pick hw).2 p hp
    | maybe t g =>
      rw [hi] at h
      rw [LT, LT, ih t (by omega) (wf_maybe hw) p hp]
      cases g <;> simp
    | many t g =>
      rw [hi] at h
      have hw2 := wf_many hw
      have e1 : LT (u ++ w) (.many t g) (u.length + p) = LM (LT (u ++ w) t) g (u ++ w).length (u.length + p) := by rw [LT]
      have e2 : LT w (.many t g) p = LM (LT w t) g w.length p := by rw [LT]
      rw [e1, e2]
      rw [LM_enough (w := u ++ w) (LT_gt hw2.1 hw2.2) (LT_le hw2.1) (u ++ w).length w.length (u.length + p) (by omega) (by simp; omega) (by simp; omega)]
      -- within the text only
      have aux : ∀ k p, p ≤ w.length → LM (LT (u ++ w) t) g k (u.length + p) = (LM (LT w t) g k p).map (u.length + ·) := by
        intro k
        induction k with
        | zero => intro p _; rfl
        | succ k ihk =>
          intro p hp
          have key : ((LT w t p).map (u.length + ·)).flatMap (LM (LT (u ++ w) t) g k) = ((LT w t p).flatMap (LM (LT w t) g k)).map (u.length + ·) := by
            have hle := LT_le (w := w) hw2.1 p
            generalize LT w t p = xs at *
            induction xs with
            | nil => rfl
            | cons q qs ihq =>
              rw [List.map_cons, List.flatMap_cons, List.flatMap_cons, List.map_append, ihq fun r hp hr => hle r hp (List.mem_cons_of_mem _ hr), ihk q (hle q hp List.mem_cons_self)]
          rw [LM, LM, ih t (by omega) hw2.1 p hp, key]
          cases g <;> simp
      exact aux _ p hp
theorem LT_shift (u w : List Nat) {t : Tr} (hw : wf t = true) (p : Nat) (hp : p ≤ w.length) : LT (u ++ w) t (u.length + p) = (LT w t p).map (u.length + ·) := shift_aux u w _ t (Nat.le_refl _) hw p hp
end Mt
end
section
namespace Mt
open Mini Bd
/-! all matches, one behind the other -/
def allS (h : Nat → Option Nat) (n : Nat) : Nat → Nat → List (Nat × Nat)
  | 0, _ => []
  | f + 1, p => if p < n then (match h p with
    | none => allS h n f (p + 1)
    | some q => (p, q) :: allS h n f (max (p + 1) q)) else []
theorem allS_end {h : Nat → Option Nat} {n p : Nat} (hp : n ≤ p) : ∀ f, allS h n f p = []
  | 0 => rfl
  | f + 1 => by rw [allS, if_neg (by omega)]
theorem allS_fuel {h : Nat → Option Nat} {n : Nat} : ∀ (f f' p : Nat), n ≤ f + p → n ≤ f' + p → allS h n f p = allS h n f' p
  | 0, f', p, h1, _ => by rw [allS_end (by omega), allS_end (by omega)]
  | f + 1, 0, p, _, h2 => by rw [allS_end (by omega), allS_end (by omega)]
  | f + 1, f' + 1, p, h1, h2 => by
    rw [allS, allS]
    by_cases hp : p < n
    · rw [if_pos hp, if_pos hp]
      cases h p with
      | none => exact allS_fuel f f' (p + 1) (by omega) (by omega)
      | some q =>
        simp only
        rw [allS_fuel f f' (max (p + 1) q) (by omega) (by omega)]
    · rw [if_neg hp, if_neg hp]
/-- a match, as data -/
def mD (v : Nat × Nat) : D := .tup [.int (v.1 : Int), .int ((v.2 : Int) - (v.1 : Int))]
theorem allS_len {h : Nat → Option Nat} {n : Nat} : ∀ (f p : Nat), (allS h n f p).length + p ≤ max n p
  | 0, p => by simp [allS]; omega
  | f + 1, p => by
    rw [allS]
    by_cases hp : p < n
    · rw [if_pos hp]
      cases h p with
      | none => have := allS_len (h := h) (n := n) f (p + 1); simp only; omega
      | some q => have := allS_len (h := h) (n := n) f (max (p + 1) q); simp only [List.length_cons]; omega
    · rw [if_neg hp]; simp; omega
theorem freeL_mD : ∀ xs : List (Nat × Nat), freeL (xs.map mD) = true
  | [] => rfl
  | x :: xs => by rw [List.map_cons, freeL, freeL_mD xs]; rfl
theorem a_get (s : Sto) (ds : List D) : (s ++ [Ob.L ds])[s.length]? = some (.L ds) := by simp
theorem a_set (s : Sto) (ds ds' : List D) : (s ++ [Ob.L ds]).set s.length (.L ds') = s ++ [.L ds'] := by simp
theorem a_app (s : Sto) (ds : List D) (a : M) (e : Env) : kApp a e (.ok (.own s.length, s ++ [Ob.L ds])) = kApp2 s.length (a e (s ++ [.L ds])) := kApp_ok (a_get s ds)
theorem a_app2 (s : Sto) (ds : List D) (d : D) (h : ds.length < 16777216) (hf : free d = true) : kApp2 s.length (.ok (d, s ++ [Ob.L ds])) = .ok (.non, s ++ [.L (ds ++ [d])]) := by
  rw [kApp2_ok (a_get s ds) h hf, a_set]
end Mt
end
section
namespace Mt
open Mini Bd
theorem first_shift {w : List Nat} {t : Tr} (hw : wf t = true) {p : Nat} (hp : p ≤ w.length) : ∀ (m k : Nat), p + k + m = w.length + 1 → (firstM (w.drop p) t m k).map (fun v => (p + v.1, p + v.2)) = firstM w t m (p + k)
  | 0, k, _ => rfl
  | m + 1, k, h => by
    have ih := first_shift hw hp m (k + 1) (by omega)
    have hs := LT_shift (w.take p) (w.drop p) hw k (by simp; omega)
    rw [List.take_append_drop] at hs
    have hl : (w.take p).length = p := by simp; omega
    rw [hl] at hs
    rw [firstM, firstM, hs]
    cases LT (w.drop p) t k with
    | nil => exact ih
    | cons q qs => rfl
theorem firstT_drop {w : List Nat} {t : Tr} (hw : wf t = true) {p : Nat} (hp : p ≤ w.length) : (firstT (w.drop p) t).map (fun v => (p + v.1, p + v.2)) = firstM w t (w.length + 1 - p) p := by
  have h := first_shift hw hp (w.length + 1 - p) 0 (by omega)
  unfold firstT
  rw [show (w.drop p).length + 1 = w.length + 1 - p by simp; omega]
  exact h
theorem allS_first {w : List Nat} {t : Tr} : ∀ (m p : Nat), p + m = w.length + 1 → allS (fun p => (LT w t p).head?) (w.length + 1) (w.length + 1) p = match firstM w t m p with
    | none => []
    | some (b, q) => (b, q) :: allS (fun p => (LT w t p).head?) (w.length + 1) (w.length + 1) (max (b + 1) q)
  | 0, p, h => by rw [allS_end (by omega)]; rfl
  | m + 1, p, h => by
    have ih := allS_first (w := w) (t := t) m (p + 1) (by omega)
    rw [allS, if_pos (by omega), firstM]
    cases hL : LT w t p with
    | nil =>
      simp only [List.head?_nil]
      rw [allS_fuel w.length (w.length + 1) (p + 1) (by omega) (by omega)]
      exact ih
    | cons q qs =>
      simp only [List.head?_cons]
      rw [allS_fuel w.length (w.length + 1) (max (p + 1) q) (by omega) (by omega)]
theorem firstM_ge {w : List Nat} {t : Tr} : ∀ (m k : Nat) {b q : Nat}, firstM w t m k = some (b, q) → k ≤ b ∧ b < k + m ∧ ∃ qs, LT w t b = q :: qs
  | 0, k, b, q, h => by simp [firstM] at h
  | m + 1, k, b, q, h => by
    rw [firstM] at h
    cases hL : LT w t k with
    | nil =>
      rw [hL] at h
      obtain ⟨h1, h2, h3⟩ := firstM_ge m (k + 1) h
      exact ⟨by omega, by omega, h3⟩
    | cons x xs =>
      rw [hL] at h
      simp at h
      obtain ⟨rfl, rfl⟩ := h
      exact ⟨by omega, by omega, xs, hL⟩
theorem all_found_loop {w : List Nat} {t : Tr} {n0 : Nat} {N : List St} (hw : wf t = true) (hN : ∀ w, NetFor w t n0 N) (hs : sz t ≤ 4000) (hl : w.length ≤ 100000) (x0 : Option D) : ∀ (f p : Nat) (fd : List (Nat × Nat)) (x5 : Option D), w.length + 1 ≤ f + p → fd.length ≤ p →
    ∃ o, sWhile t_p_all_found_1 c_p_all_found_1 [x0, some (.str w), some (netD (n0, N)), some (.own 0), some (.int (p : Int)), x5] [.L (fd.map mD)] =
      .ok (o, [.L ((fd ++ allS (fun p => (LT w t p).head?) (w.length + 1) (w.length + 1) p).map mD)]) ∧ (o = .rt (.own 0) ∨ ∃ z4 z5, o = .nx [x0, some (.str w), some (netD (n0, N)), some (.own 0), z4, z5]) := by
  intro f
  induction f with
  | zero =>
    intro p fd x5 hp _
    refine ⟨.nx [x0, some (.str w), some (netD (n0, N)), some (.own 0), some (.int (p : Int)), x5], ?_, .inr ⟨_, _, rfl⟩⟩
    rw [allS_end (by omega), List.append_nil]
    apply sWhile_false
    simp [t_p_all_found_1, show w.length ≤ 16777216 by omega, show ¬ p ≤ w.length by omega]
  | succ f ih =>
    intro p fd x5 hp hf
    by_cases hpl : p ≤ w.length
    · have ht : t_p_all_found_1 [x0, some (.str w), some (netD (n0, N)), some (.own 0), some (.int (p : Int)), x5] [.L (fd.map mD)] = .ok (true, [.L (fd.map mD)]) := by
        simp [t_p_all_found_1, show w.length ≤ 16777216 by omega, hpl]
      have hsw := (hN (w.drop p)).swept hs (by simp; omega)
      have hcut := cut_lo w p hpl
      have hft := firstT_drop hw hpl
      have hal := allS_first (w := w) (t := t) (w.length + 1 - p) p (by omega)
      have hfn : free (netD (n0, N)) = true := by simp [netD, freeL_sd]
      rw [hal]
      cases hF : firstT (w.drop p) t with
      | none =>
        rw [hF] at hft hsw
        rw [← hft]
        refine ⟨.rt (.own 0), ?_, .inl rfl⟩
        simp only [fD, Option.map_none, List.append_nil] at hsw ⊢
        generalize netD (n0, N) = ND at *
        apply sWhile_ret ht
        simp [c_p_all_found_1, show w.length ≤ 16777216 by omega, hcut, hfn, hsw]
      | some v =>
        obtain ⟨b, q⟩ := v
        rw [hF] at hft hsw
        obtain ⟨g1, g2, g3⟩ := firstM_ge _ _ hft.symm
        rw [← hft]
        simp only [fD, Option.map_some] at hsw ⊢
        have e : fd ++ (p + b, p + q) :: allS (fun p => (LT w t p).head?) (w.length + 1) (w.length + 1) (max (p + b + 1) (p + q)) = (fd ++ [(p + b, p + q)]) ++ allS (fun p => (LT w t p).head?) (w.length + 1) (w.length + 1) (max (p + b + 1) (p + q)) := by simp
        rw [e]
        obtain ⟨o, ih, ho⟩ := ih (max (p + b + 1) (p + q)) (fd ++ [(p + b, p + q)]) (some (.tup [.int (b : Int), .int ((q : Int) - (b : Int))])) (by omega) (by simp; omega)
        refine ⟨o, ?_, ho⟩
        rw [← ih]
        have a0 := a_app [] (fd.map mD)
        have a1 := a_app2 [] (fd.map mD) (mD (p + b, p + q)) (by simp; omega) rfl
        rw [show fd.map mD ++ [mD (p + b, p + q)] = (fd ++ [(p + b, p + q)]).map mD by simp] at a1
        simp only [List.nil_append, List.length_nil] at a0 a1
        have em : mD (p + b, p + q) = .tup [.int ((p : Int) + (b : Int)), .int ((q : Int) - (b : Int))] := by
          simp only [mD, D.tup.injEq, List.cons.injEq, D.int.injEq]
          exact ⟨by omega, by omega, trivial⟩
        rw [em] at a1
        have hmx : (p : Int) + (b : Int) + (if (1 : Int) < (q : Int) - (b : Int) then (q : Int) - (b : Int) else 1) = ((max (p + b + 1) (p + q) : Nat) : Int) := by split <;> omega
        generalize netD (n0, N) = ND at *
        generalize (fd ++ [(p + b, p + q)]).map mD = D2 at *
        generalize fd.map mD = D1 at *
        apply sWhile_true ht
        left
        simp [c_p_all_found_1, show w.length ≤ 16777216 by omega, hcut, hfn, hsw, a0, a1, pos, hmx]
    · refine ⟨.nx [x0, some (.str w), some (netD (n0, N)), some (.own 0), some (.int (p : Int)), x5], ?_, .inr ⟨_, _, rfl⟩⟩
      rw [allS_end (by omega), List.append_nil]
      apply sWhile_false
      simp [t_p_all_found_1, show w.length ≤ 16777216 by omega, hpl]
theorem all_found6 {p w : List Nat} {t : Tr} (hr : f_p_read [.str p] = .ok (td t)) (hw : wf t = true) (hh : hi t ≤ 100) (hs : sz t ≤ 4000) (hl : w.length ≤ 100000) :
    ∃ ds, f_p_all_found [.str p, .str w] = .ok (.lst ds) := by
  have hlen := net_len hw
  have hno : f_p_net_of [td t] = .ok (netD ((netOf t).1, (netOf t).2)) := net_of t (by omega) hw (by omega)
  have hf1 := free_td t
  obtain ⟨o, h, ho⟩ := all_found_loop hw (fun w => net_for hw w) hs hl (some (.str p)) (w.length + 1) 0 [] none (by omega) (by simp)
  simp only [List.map_nil, List.nil_append] at h
  have h : sWhile t_p_all_found_1 c_p_all_found_1 [some (.str p), some (.str w), some (netD ((netOf t).1, (netOf t).2)), some (.own 0), some (.int 0), none] [.L []] = _ := h
  refine ⟨(allS (fun p => (LT w t p).head?) (w.length + 1) (w.length + 1) 0).map mD, ?_⟩
  generalize (allS (fun p => (LT w t p).head?) (w.length + 1) (w.length + 1) 0).map mD = R at *
  generalize netD ((netOf t).1, (netOf t).2) = ND at *
  rcases ho with rfl | ⟨z4, z5, rfl⟩
  · simp [f_p_all_found, run_eq, b_p_all_found, hr, hf1, hno, h]
  · simp [f_p_all_found, run_eq, b_p_all_found, hr, hf1, hno, h]
theorem first6 {p w : List Nat} {t : Tr} (hr : f_p_read [.str p] = .ok (td t)) (hw : wf t = true) (hh : hi t ≤ 100) (hs : sz t ≤ 4000) (hl : w.length ≤ 100000) : f_p_first [.str p, .str w] = .ok (fD (firstT w t)) := by
  have hlen := net_len hw
  have hno : f_p_net_of [td t] = .ok (netD ((netOf t).1, (netOf t).2)) := net_of t (by omega) hw (by omega)
  have hf1 := free_td t
  have hsw := (net_for hw w).swept hs (by omega)
  have hfn : freeL [netD ((netOf t).1, (netOf t).2)] = true := by simp [netD, freeL_sd]
  have hfd := frz_free 0 [] (fD (firstT w t)) (by cases firstT w t <;> rfl)
  generalize netD ((netOf t).1, (netOf t).2) = ND at *
  generalize fD (firstT w t) = F at *
  simp [f_p_first, run_eq, b_p_first, hr, hf1, hno, hsw, hfd, hfn]
end Mt
end
section
namespace Mt
open Mini Bd
@[simp] theorem kCall_exc {φ : List D → R D} {c : Nat} : kCall φ (.exc c) = .exc c := (rfl : _ = _).trans rfl
@[simp] theorem kA1_exc' {a : A} {e : Env} {c : Nat} : kA1 a e (.exc c) = .exc c := (rfl : _ = _).trans rfl
theorem tryR_ok {b : S} {l : List (Nat × List Nat)} {e : Env} {s : Sto} {x : O × Sto} (h : b e s = .ok x) : sTryR b l e s = .ok x := by unfold sTryR; rw [h]
theorem tryR_exc {b : S} {l : List (Nat × List Nat)} {e : Env} {c : Nat} {z : List Nat} (h : b e [] = .exc c) (hc : c < 5) (hz : tblAt l c = some z) : sTryR b l e [] = .ok (.rt (.str z), []) := by unfold sTryR; rw [h]; simp [hc, hz]
theorem try1_exc {b : S} {e : Env} {c : Nat} (h : b e [] = .exc c) (hc : c < 5) : sTry1 b e [] = .ok (.rt (.bl true), []) := by unfold sTry1; rw [h]; simp [hc]
theorem asked_ex {p : List Nat} {c : Nat} (h : f_p_read [.str p] = .exc c) (k : Nat) : f_l_asked [.str p, .int (k : Int)] = .exc c := by
  have h1 : f_p_first [.str p, .str [97, 32, 98]] = .exc c := by simp [f_p_first, run_eq, b_p_first, h]
  have h2 : f_p_all_found [.str p, .str []] = .exc c := by simp [f_p_all_found, run_eq, b_p_all_found, h]
  by_cases k0 : k = 0
  · subst k0; simp [f_l_asked, run_eq, b_l_asked, h]
  · by_cases k1 : k = 1
    · subst k1; simp [f_l_asked, run_eq, b_l_asked, h1]
    · simp [f_l_asked, run_eq, b_l_asked, h2, show ¬ (k : Int) = 0 by omega, show ¬ (k : Int) = 1 by omega, k0, k1]
theorem isT_td (t : Tr) : isTy .tuple (td t) = some (.bl true) := by cases t <;> simp [td, isTy]
theorem rz_td6 (s : Sto) (t : Tr) : rz s (td t) = td t := by cases t <;> simp [td]
theorem asked_ok {p : List Nat} {t : Tr} (h : f_p_read [.str p] = .ok (td t)) (hw : wf t = true) (hh : hi t ≤ 100) (hs : sz t ≤ 4000) (k : Nat) : f_l_asked [.str p, .int (k : Int)] = .ok (.bl true) := by
  have h1 := first6 (w := [97, 32, 98]) h hw hh hs (by simp)
  obtain ⟨ds, h2⟩ := all_found6 (w := []) h hw hh hs (by simp)
  by_cases k0 : k = 0
  · subst k0; simp [f_l_asked, run_eq, b_l_asked, h, isT_td, rz_td6, -isTy]
  · by_cases k1 : k = 1
    · subst k1
      cases hF : firstT [97, 32, 98] t with
      | none => rw [hF] at h1; simp only [fD] at h1; simp [f_l_asked, run_eq, b_l_asked, h1]
      | some v => rw [hF] at h1; simp only [fD] at h1; simp [f_l_asked, run_eq, b_l_asked, h1, isTy]
    · simp [f_l_asked, run_eq, b_l_asked, h2, isTy, show ¬ (k : Int) = 0 by omega, show ¬ (k : Int) = 1 by omega, k0, k1]
theorem refusal_ex {p : List Nat} {c : Nat} (h : f_p_read [.str p] = .exc c) (hc : c < 5) (k : Nat) : f_l_refusal [.str p, .int (k : Int)] = .ok (.str (nmE c)) := by
  have ha := asked_ex h k
  have hz : tblAt [(0, [117, 110, 99, 108, 111, 115, 101, 100]), (1, [117, 110, 111, 112, 101, 110, 101, 100]), (2, [110, 111, 116, 104, 105, 110, 103]), (3, [114, 111, 117, 110, 100]), (4, [100, 101, 101, 112])] c = some (nmE c) := by
    match c, hc with
    | 0, _ => rfl
    | 1, _ => rfl
    | 2, _ => rfl
    | 3, _ => rfl
    | 4, _ => rfl
    | _ + 5, h => omega
  rw [f_l_refusal, run_eq, b_l_refusal, tryR_exc (c := c) (by simp [ha]) hc hz]
  simp
theorem refusal_ok {p : List Nat} {t : Tr} (h : f_p_read [.str p] = .ok (td t)) (hw : wf t = true) (hh : hi t ≤ 100) (hs : sz t ≤ 4000) (k : Nat) : f_l_refusal [.str p, .int (k : Int)] = .ok (.str []) := by
  have ha := asked_ok h hw hh hs k
  rw [f_l_refusal, run_eq, b_l_refusal, tryR_ok (x := (.rt (.str []), [])) (by simp [ha])]
  simp
theorem one_class {p : List Nat} {c : Nat} (h : f_p_read [.str p] = .exc c) (hc : c < 5) : f_l_one_class [.str p] = .ok (.bl true) := by
  have := try1_exc (b := sEx (mCall f_p_read (aCons (mV 0) aNil))) (e := [some (.str p), none, none, none]) (c := c) (by simp [h]) hc
  simp [f_l_one_class, run_eq, b_l_one_class, this]
end Mt
end
section
namespace Mt
open Mini Bd
def Tt (z : List Nat) : Prop := ∀ x ∈ z, x ∈ tbl
theorem piece_by (c : Int) (a b d : Nat) (h : Tt [a, b, d]) : ∃ z, f_l_piece_by [.int c, .str [a, b, d]] = .ok (.str z) ∧ z.length ≤ 6 ∧ Tt z := by
  have ha : a ∈ tbl := h a (by simp)
  have hb : b ∈ tbl := h b (by simp)
  have hd : d ∈ tbl := h d (by simp)
  have h5 : c % 5 = 0 ∨ c % 5 = 1 ∨ c % 5 = 2 ∨ c % 5 = 3 ∨ c % 5 = 4 := by omega
  rcases h5 with h5 | h5 | h5 | h5 | h5
  · refine ⟨[sg (c / 5)], by simp [f_l_piece_by, run_eq, b_l_piece_by, b_l_piece_by_1, b_l_piece_by_2, b_l_piece_by_3, h5, sign_by], by simp, fun x hx => ?_⟩
    simp at hx
    rw [hx]; exact sg_mem _
  · have e0 : opIx [] (.str [a, b, d]) (.int 0) = some (.str [a]) := opIx_str_nat [] [a, b, d] 0 (by simp) (by simp)
    have e1 : opIx [] (.str [a, b, d]) (.int 1) = some (.str [b]) := opIx_str_nat [] [a, b, d] 1 (by simp) (by simp)
    have e2 : opIx [] (.str [a, b, d]) (.int 2) = some (.str [d]) := opIx_str_nat [] [a, b, d] 2 (by simp) (by simp)
    have h3 : c / 5 % 3 = 0 ∨ c / 5 % 3 = 1 ∨ c / 5 % 3 = 2 := by omega
    rcases h3 with h3 | h3 | h3
    · exact ⟨[a], by simp [f_l_piece_by, run_eq, b_l_piece_by, b_l_piece_by_1, b_l_piece_by_2, b_l_piece_by_3, b_l_piece_by_4, h5, h3, e0, e1, e2], by simp, fun x hx => by simp at hx; rw [hx]; exact ha⟩
    · exact ⟨[b], by simp [f_l_piece_by, run_eq, b_l_piece_by, b_l_piece_by_1, b_l_piece_by_2, b_l_piece_by_3, b_l_piece_by_4, h5, h3, e0, e1, e2], by simp, fun x hx => by simp at hx; rw [hx]; exact hb⟩
    · exact ⟨[d], by simp [f_l_piece_by, run_eq, b_l_piece_by, b_l_piece_by_1, b_l_piece_by_2, b_l_piece_by_3, b_l_piece_by_4, h5, h3, e0, e1, e2], by simp, fun x hx => by simp at hx; rw [hx]; exact hd⟩
  · obtain ⟨k, hk⟩ := Int.eq_ofNat_of_zero_le (show 0 ≤ c / 5 % 10 by omega)
    have hk10 : k < 10 := by omega
    have key : ∀ k < 10, Tt [at0 [40, 41, 124, 42, 63, 46, 91, 93, 126, 33] k] := by unfold Tt; decide
    have e := opIx_str_nat [] [40, 41, 124, 42, 63, 46, 91, 93, 126, 33] k (by simp; omega) (by simp)
    exact ⟨_, by simp [f_l_piece_by, run_eq, b_l_piece_by, b_l_piece_by_1, b_l_piece_by_2, b_l_piece_by_3, b_l_piece_by_4, b_l_piece_by_5, h5, hk, e], by simp, key k hk10⟩
  · have h9 : c / 5 % 9 = 0 ∨ c / 5 % 9 = 1 ∨ c / 5 % 9 = 2 ∨ c / 5 % 9 = 3 ∨ c / 5 % 9 = 4 ∨ c / 5 % 9 = 5 ∨ c / 5 % 9 = 6 ∨ c / 5 % 9 = 7 ∨ c / 5 % 9 = 8 := by omega
    rcases h9 with h9 | h9 | h9 | h9 | h9 | h9 | h9 | h9 | h9 <;>
      exact ⟨_, by simp [f_l_piece_by, run_eq, b_l_piece_by, b_l_piece_by_1, b_l_piece_by_2, b_l_piece_by_3, b_l_piece_by_4, b_l_piece_by_5, b_l_piece_by_6, h5, h9, pos]; rfl, by decide, by unfold Tt; decide⟩
  · obtain ⟨k, hk⟩ := Int.eq_ofNat_of_zero_le (show 0 ≤ c / 5 % 6 by omega)
    have hk6 : k < 6 := by omega
    have key : ∀ k < 6, Tt [at0 [40, 124, 41, 42, 63, 33] k] := by unfold Tt; decide
    have e := opIx_str_nat [] [40, 124, 41, 42, 63, 33] k (by simp; omega) (by simp)
    exact ⟨_, by simp [f_l_piece_by, run_eq, b_l_piece_by, b_l_piece_by_1, b_l_piece_by_2, b_l_piece_by_3, b_l_piece_by_4, b_l_piece_by_5, b_l_piece_by_6, b_l_piece_by_7, h5, hk, e], by simp, key k hk6⟩
theorem zstrs_g (g : Int → List Nat) : ∀ xs : List Int, zstrs (xs.map fun x => .str (g x)) = some (xs.map g)
  | [] => rfl
  | x :: xs => by simp [zstrs_g g xs]
theorem flat_len (g : Int → List Nat) (h : ∀ c, (g c).length ≤ 6) : ∀ xs : List Int, (xs.map g).flatten.length ≤ 6 * xs.length ∧ ((xs.map g).map (·.length)).sum ≤ 6 * xs.length
  | [] => by simp
  | x :: xs => by
    have ih := flat_len g h xs
    have := h x
    simp at ih ⊢
    omega
theorem flat_tt (g : Int → List Nat) (h : ∀ c, Tt (g c)) (xs : List Int) : Tt (xs.map g).flatten := fun x hx => by
  obtain ⟨l, hl, hx⟩ := List.mem_flatten.mp hx
  obtain ⟨c, _, rfl⟩ := List.mem_map.mp hl
  exact h c x hx
theorem loop3 (p q : List Nat) (hr : ∀ k : Nat, f_l_refusal [.str p, .int (k : Int)] = .ok (.str q)) (hq : plain (.str q) = true) (x0 x1 x3 x4 x5 x7 : Option D) :
    forF 7 c_l_law_1 (rng 0 3) [x0, x1, some (.str p), x3, x4, x5, some (.str q), x7] [] = .ok (.nx [x0, x1, some (.str p), x3, x4, x5, some (.str q), some (.int 2)], []) := by
  have hb : ∀ k : Nat, c_l_law_1 [x0, x1, some (.str p), x3, x4, x5, some (.str q), some (.int (k : Int))] [] = .ok (.nx [x0, x1, some (.str p), x3, x4, x5, some (.str q), some (.int (k : Int))], []) := fun k => by
    have h := hr k
    simp only [plain] at hq
    simp [c_l_law_1, h, hq]
  have h0 := hb 0
  have h1 := hb 1
  have h2 := hb 2
  have e : rng 0 3 = [.int ((0 : Nat) : Int), .int ((1 : Nat) : Int), .int ((2 : Nat) : Int)] := rfl
  rw [e]
  simp only [forF, List.set, h0, h1, h2, R.bind_ok]
  rfl
/-- the rest of the law, whatever the pattern -/
theorem law_rest (p : List Nat) (hl : p.length ≤ 1000) (ht : Tt p) (x0 x1 x3 x4 x5 x6 x7 : Option D) : b_l_law_3 [x0, x1, some (.str p), x3, x4, x5, x6, x7] [] = .ok (.rt (.bl true), []) := by
  have hk : kR1 (.ok ((.int 3 : D), ([] : Sto))) = .ok (rng 0 3, []) := kR1_ok (by omega)
  rcases refuse p hl ht with ⟨c, hc, hr, hd⟩ | ⟨t, hw, hh, hs, hr, hd⟩
  · have ho := one_class hr hc
    have hn : nmE c ≠ [] ∧ plain (.str (nmE c)) = true := by
      match c, hc with
      | 0, _ => decide
      | 1, _ => decide
      | 2, _ => decide
      | 3, _ => decide
      | 4, _ => decide
      | _ + 5, h => omega
    have hf := fun y7 => loop3 p (nmE c) (refusal_ex hr hc) hn.2 x0 x1 x3 x4 x5 y7
    generalize nmE c = q at *
    have hn1 := hn.1
    simp [b_l_law_3, hd, b_l_law_4, hk, hf, b_l_law_5, hn1, ho]
  · have hf := fun y7 => loop3 p [] (refusal_ok hr hw (by omega) (by omega)) (by decide) x0 x1 x3 x4 x5 y7
    simp [b_l_law_3, hd, b_l_law_4, hk, hf, b_l_law_5]
theorem cut_60 (ns : List Int) (h : ns.length ≤ 63) : (cut ns (some 3) (some 150)).length ≤ 60 := by
  unfold cut; rw [List.length_take, List.length_drop]; simp [six]; omega
theorem main (ns : List Int) (h63 : ns.length ≤ 63) : f_l_law [.scr ns] = .ok (.bl true) := by
  have c0 := cell_i ns 0 0 rfl
  have c1 := cell_i ns 1 1 rfl
  have c2 := cell_i ns 2 2 rfl
  have h3 : Tt [sg (cellAt ns 0), sg (cellAt ns 0 + 31), sg (cellAt ns 0 + 62)] := fun x hx => by
    simp at hx
    rcases hx with rfl | rfl | rfl <;> exact sg_mem _
  have h3b := three_by (cellAt ns 0)
  have hpc := fun c => piece_by c _ _ _ h3
  let g : Int → List Nat := fun c => Classical.choose (hpc c)
  have hg : ∀ c, f_l_piece_by [.int c, .str [sg (cellAt ns 0), sg (cellAt ns 0 + 31), sg (cellAt ns 0 + 62)]] = .ok (.str (g c)) ∧ (g c).length ≤ 6 ∧ Tt (g c) := fun c => Classical.choose_spec (hpc c)
  generalize g = g at hg
  have hcut := cut_60 ns h63
  have hlc : lcF 3 tYes (mCall f_l_piece_by (aCons (mV 3) (aCons (mV 1) aNil))) [some (.scr ns), some (.str [sg (cellAt ns 0), sg (cellAt ns 0 + 31), sg (cellAt ns 0 + 62)]), none, none, none, none, none, none] ((cut ns (some 3) (some 150)).map .int) [] =
      .ok ((cut ns (some 3) (some 150)).map fun c => .str (g c), []) := lcF_idx _ _ _ fun c _ => ⟨by simp [(hg c).1], by simp⟩
  have hfl := flat_len g (fun c => (hg c).2.1) (cut ns (some 3) (some 150))
  have hj : joinD [] (.lst ((cut ns (some 3) (some 150)).map fun c => .str (g c))) = some (.str ((cut ns (some 3) (some 150)).map g).flatten) := by
    have := hfl.2
    simp only [joinD, zstrs_g, Option.bind_some, glue_nil, List.length_nil, Nat.mul_zero, Nat.add_zero]
    rw [if_pos (by simp only [line_eq]; omega)]
  have htt := flat_tt g (fun c => (hg c).2.2) (cut ns (some 3) (some 150))
  have hl1 := hfl.1
  generalize ((cut ns (some 3) (some 150)).map g).flatten = p at *
  generalize hD : ((cut ns (some 3) (some 150)).map fun c => (.str (g c) : D)) = Ds at *
  generalize [sg (cellAt ns 0), sg (cellAt ns 0 + 31), sg (cellAt ns 0 + 62)] = three at *
  have h2 : b_l_law_2 [some (.scr ns), some (.str three), some (.str p), none, none, none, none, none] [] = .ok (.rt (.bl true), []) := by
    by_cases hc : cellAt ns 1 % 4 = 1
    · obtain ⟨m, hm⟩ := Int.eq_ofNat_of_zero_le (show 0 ≤ 25 + cellAt ns 2 % 11 by omega)
      obtain ⟨k, hk⟩ := Int.eq_ofNat_of_zero_le (show 0 ≤ (m : Int) - (cellAt ns 1 / 4 % 4 - 1) by omega)
      have hm2 : m ≤ 35 := by omega
      have hk2 : k ≤ 36 := by omega
      have hlr := fun p' (hp' : p'.length ≤ 1000) (ht' : Tt p') => law_rest p' hp' ht' (some (.scr ns)) (some (.str three)) none (some (.int (m : Int))) (some (.int (cellAt ns 1 / 4 % 4 - 1))) none none
      have r := hlr ((List.replicate m [40]).flatten ++ p ++ (List.replicate k [41]).flatten) (by simp; omega) (fun x hx => by
        simp only [List.mem_append] at hx
        rcases hx with (hx | hx) | hx
        · obtain ⟨l, hl, hx⟩ := List.mem_flatten.mp hx
          rw [(List.mem_replicate.mp hl).2] at hx
          simp at hx; rw [hx]; decide
        · exact htt x hx
        · obtain ⟨l, hl, hx⟩ := List.mem_flatten.mp hx
          rw [(List.mem_replicate.mp hl).2] at hx
          simp at hx; rw [hx]; decide)
      have e1 : opMul [] (.str [40]) (.int (m : Int)) = some (.str (List.replicate m [40]).flatten) := by simp; omega
      have e2 : opMul [] (.str [41]) (.int (k : Int)) = some (.str (List.replicate k [41]).flatten) := by simp; omega
      have l1 : (List.replicate m [40]).flatten.length = m := by simp
      have l2 : (List.replicate k [41]).flatten.length = k := by simp
      generalize (List.replicate m [40]).flatten = A at *
      generalize (List.replicate k [41]).flatten = B at *
      rw [List.append_assoc] at r
      simp [b_l_law_2, c1, c2, hc, hm, hk, e1, e2, l1, l2, r, show m + p.length ≤ 16777216 by omega, show m + p.length + k ≤ 16777216 by omega, show m + (p.length + k) ≤ 16777216 by omega, -opMul]
    · have r := law_rest p (by omega) htt (some (.scr ns)) (some (.str three)) none none none none none
      simp [b_l_law_2, c1, hc, r]
  simp [f_l_law, run_eq, b_l_law, c0, h3b, b_l_law_1, hlc, hj, h2, show (cut ns (some 3) (some 150)).length ≤ 16777216 by omega, -joinD]
end Mt
end
section
namespace Wk
open PySem L2 Snd
open PyProof.Rows (envOfC)
open Bd Mini
def topS (i : Nat) : Stmt := PySem.Challenge.pw_patternback_k06_refused.main.body.getD i (.Pass ⟨0, 0, 0, 0⟩)
abbrev cx : Nat → Addr := fun _ => 0
abbrev s_p_takes : Stmt := topS 8
abbrev s_p_bare : Stmt := topS 10
abbrev s_p_row_of : Stmt := topS 13
abbrev s_p_pick_of : Stmt := topS 14
abbrev s_p_set_at : Stmt := topS 15
abbrev s_p_piece_at : Stmt := topS 16
abbrev s_p_repeated : Stmt := topS 17
abbrev s_p_closed : Stmt := topS 18
abbrev s_p_opened : Stmt := topS 19
abbrev s_p_read : Stmt := topS 20
abbrev s_p_parted : Stmt := topS 22
abbrev s_p_picked : Stmt := topS 23
abbrev s_p_built : Stmt := topS 24
abbrev s_p_net_of : Stmt := topS 25
abbrev s_p_led_in : Stmt := topS 27
abbrev s_p_row_behind : Stmt := topS 28
abbrev s_p_sweep : Stmt := topS 29
abbrev s_p_swept : Stmt := topS 30
abbrev s_p_first : Stmt := topS 32
abbrev s_p_all_found : Stmt := topS 33
abbrev s_l_cell_at : Stmt := topS 35
abbrev s_l_sign_by : Stmt := topS 36
abbrev s_l_three_by : Stmt := topS 37
abbrev s_l_set_end : Stmt := topS 38
abbrev s_l_closed : Stmt := topS 39
abbrev s_l_grouped : Stmt := topS 40
abbrev s_l_wrong_repeat : Stmt := topS 41
abbrev s_l_due : Stmt := topS 42
abbrev s_l_asked : Stmt := topS 43
abbrev s_l_refusal : Stmt := topS 44
abbrev s_l_one_class : Stmt := topS 45
abbrev s_l_piece_by : Stmt := topS 46
abbrev s_l_law : Stmt := topS 47
theorem sc_p_takes : FnScope ["inside", "signs", "sign"] ["inside", "signs", "sign"] (defScope s_p_takes) := ⟨rfl, rfl, rfl, by decide +kernel, rfl, by decide +kernel, by decide +kernel⟩
theorem sc_p_bare : FnScope ["tree", "part"] ["tree"] (defScope s_p_bare) := ⟨rfl, rfl, rfl, by decide +kernel, rfl, by decide +kernel, by decide +kernel⟩
theorem sc_p_row_of : FnScope ["pieces"] ["pieces"] (defScope s_p_row_of) := ⟨rfl, rfl, rfl, by decide +kernel, rfl, by decide +kernel, by decide +kernel⟩
theorem sc_p_pick_of : FnScope ["rows"] ["rows"] (defScope s_p_pick_of) := ⟨rfl, rfl, rfl, by decide +kernel, rfl, by decide +kernel, by decide +kernel⟩
theorem sc_p_set_at : FnScope ["pattern", "at", "inside", "signs"] ["pattern", "at"] (defScope s_p_set_at) := ⟨rfl, rfl, rfl, by decide +kernel, rfl, by decide +kernel, by decide +kernel⟩
theorem sc_p_piece_at : FnScope ["pattern", "at", "sign"] ["pattern", "at"] (defScope s_p_piece_at) := ⟨rfl, rfl, rfl, by decide +kernel, rfl, by decide +kernel, by decide +kernel⟩
theorem sc_p_repeated : FnScope ["sign", "ready", "pieces", "eager", "part"] ["sign", "ready", "pieces", "eager"] (defScope s_p_repeated) := ⟨rfl, rfl, rfl, by decide +kernel, rfl, by decide +kernel, by decide +kernel⟩
theorem sc_p_closed : FnScope ["frames", "last", "above", "tree"] ["frames"] (defScope s_p_closed) := ⟨rfl, rfl, rfl, by decide +kernel, rfl, by decide +kernel, by decide +kernel⟩
theorem sc_p_opened : FnScope ["frames"] ["frames"] (defScope s_p_opened) := ⟨rfl, rfl, rfl, by decide +kernel, rfl, by decide +kernel, by decide +kernel⟩
theorem sc_p_read : FnScope ["pattern", "frames", "ready", "at", "sign", "rows", "pieces", "eager", "part", "piece"] ["pattern"] (defScope s_p_read) := ⟨rfl, rfl, rfl, by decide +kernel, rfl, by decide +kernel, by decide +kernel⟩
theorem sc_p_parted : FnScope ["entry", "then", "eager"] ["entry", "then", "eager"] (defScope s_p_parted) := ⟨rfl, rfl, rfl, by decide +kernel, rfl, by decide +kernel, by decide +kernel⟩
theorem sc_p_picked : FnScope ["parts", "then", "steps", "entries", "part", "here", "entry"] ["parts", "then", "steps"] (defScope s_p_picked) := ⟨rfl, rfl, rfl, by decide +kernel, rfl, by decide +kernel, by decide +kernel⟩
theorem sc_p_built : FnScope ["tree", "then", "steps", "part", "here"] ["tree", "then", "steps"] (defScope s_p_built) := ⟨rfl, rfl, rfl, by decide +kernel, rfl, by decide +kernel, by decide +kernel⟩
theorem sc_p_net_of : FnScope ["tree", "steps", "start"] ["tree"] (defScope s_p_net_of) := ⟨rfl, rfl, rfl, by decide +kernel, rfl, by decide +kernel, by decide +kernel⟩
theorem sc_p_led_in : FnScope ["net", "row", "seen", "step", "begin", "waiting", "here", "kind"] ["net", "row", "seen", "step", "begin"] (defScope s_p_led_in) := ⟨rfl, rfl, rfl, by decide +kernel, rfl, by decide +kernel, by decide +kernel⟩
theorem sc_p_row_behind : FnScope ["net", "before", "sign", "place", "is_open", "row", "seen", "pair", "step"] ["net", "before", "sign", "place", "is_open"] (defScope s_p_row_behind) := ⟨rfl, rfl, rfl, by decide +kernel, rfl, by decide +kernel, by decide +kernel⟩
theorem sc_p_sweep : FnScope ["net", "text", "found", "kept", "before", "place", "sign", "told"] ["net", "text"] (defScope s_p_sweep) := ⟨rfl, rfl, rfl, by decide +kernel, rfl, by decide +kernel, by decide +kernel⟩
theorem sc_p_swept : FnScope ["net", "text"] ["net", "text"] (defScope s_p_swept) := ⟨rfl, rfl, rfl, by decide +kernel, rfl, by decide +kernel, by decide +kernel⟩
theorem sc_p_first : FnScope ["pattern", "text"] ["pattern", "text"] (defScope s_p_first) := ⟨rfl, rfl, rfl, by decide +kernel, rfl, by decide +kernel, by decide +kernel⟩
theorem sc_p_all_found : FnScope ["pattern", "text", "net", "found", "at", "match"] ["pattern", "text"] (defScope s_p_all_found) := ⟨rfl, rfl, rfl, by decide +kernel, rfl, by decide +kernel, by decide +kernel⟩
theorem sc_l_cell_at : FnScope ["_law_script", "_law_k"] ["_law_script", "_law_k"] (defScope s_l_cell_at) := ⟨rfl, rfl, rfl, by decide +kernel, rfl, by decide +kernel, by decide +kernel⟩
theorem sc_l_sign_by : FnScope ["_law_cell", "_law_some"] ["_law_cell"] (defScope s_l_sign_by) := ⟨rfl, rfl, rfl, by decide +kernel, rfl, by decide +kernel, by decide +kernel⟩
theorem sc_l_three_by : FnScope ["_law_cell"] ["_law_cell"] (defScope s_l_three_by) := ⟨rfl, rfl, rfl, by decide +kernel, rfl, by decide +kernel, by decide +kernel⟩
theorem sc_l_set_end : FnScope ["_law_pattern", "_law_at"] ["_law_pattern", "_law_at"] (defScope s_l_set_end) := ⟨rfl, rfl, rfl, by decide +kernel, rfl, by decide +kernel, by decide +kernel⟩
theorem sc_l_closed : FnScope ["_law_frames", "_law_last", "_law_above", "_law_is_bare"] ["_law_frames"] (defScope s_l_closed) := ⟨rfl, rfl, rfl, by decide +kernel, rfl, by decide +kernel, by decide +kernel⟩
theorem sc_l_grouped : FnScope ["_law_frames", "_law_sign", "_law_last"] ["_law_frames", "_law_sign"] (defScope s_l_grouped) := ⟨rfl, rfl, rfl, by decide +kernel, rfl, by decide +kernel, by decide +kernel⟩
theorem sc_l_wrong_repeat : FnScope ["_law_sign", "_law_ready", "_law_last"] ["_law_sign", "_law_ready", "_law_last"] (defScope s_l_wrong_repeat) := ⟨rfl, rfl, rfl, by decide +kernel, rfl, by decide +kernel, by decide +kernel⟩
theorem sc_l_due : FnScope ["_law_pattern", "_law_frames", "_law_ready", "_law_at", "_law_sign", "_law_last", "_law_wrong"] ["_law_pattern"] (defScope s_l_due) := ⟨rfl, rfl, rfl, by decide +kernel, rfl, by decide +kernel, by decide +kernel⟩
theorem sc_l_asked : FnScope ["_law_pattern", "_law_way", "_law_found"] ["_law_pattern", "_law_way"] (defScope s_l_asked) := ⟨rfl, rfl, rfl, by decide +kernel, rfl, by decide +kernel, by decide +kernel⟩
theorem sc_l_refusal : FnScope ["_law_pattern", "_law_way"] ["_law_pattern", "_law_way"] (defScope s_l_refusal) := ⟨rfl, rfl, rfl, by decide +kernel, rfl, by decide +kernel, by decide +kernel⟩
theorem sc_l_one_class : FnScope ["_law_pattern", "e", "_law_told", "_law_one"] ["_law_pattern"] (defScope s_l_one_class) := ⟨rfl, rfl, rfl, by decide +kernel, rfl, by decide +kernel, by decide +kernel⟩
theorem sc_l_piece_by : FnScope ["_law_cell", "_law_three", "_law_some", "_law_way", "_law_rest"] ["_law_cell", "_law_three"] (defScope s_l_piece_by) := ⟨rfl, rfl, rfl, by decide +kernel, rfl, by decide +kernel, by decide +kernel⟩
theorem sc_l_law : FnScope ["_law_script", "_law_three", "_law_pattern", "_law_cell", "_law_deep", "_law_less", "_law_due_here", "_law_way"] ["_law_script"] (defScope s_l_law) := ⟨rfl, rfl, rfl, by decide +kernel, rfl, by decide +kernel, by decide +kernel⟩
structure Tx (K : PySem.W.Frag) (mg : Str → Option Value) where
  C : Nat → Addr
  exm : ∀ i j, i < 5 → j < 5 → PySem.W.exmOne K (.ref (C i)) (.ref (C j)) = some (decide (i = j))
  exP : ∀ j, j < 5 → PySem.W.exmOne K (.ref (C j)) (.ref (C 5)) = some true
  kit : ∀ i j, i < 5 → j < 5 → PySem.W.kitOne K (.ref (C i)) (.ref (C j)) = some (decide (i = j))
  kiV : ∀ i, i < 5 → PySem.W.kitOne K (.ref (C i)) (.type "ValueError") = some true
  exC : ∀ i, i < 5 → ExcC K (C i)
  g_PatternError : mg "PatternError" = some (.ref (C 5))
  x_Unclosed : PySem.W.excIn K (C 0) [.type "ValueError", .type "Exception", .type "BaseException", .type "object"] "ValueError.__new__" = true
  g_Unclosed : mg "Unclosed" = some (.ref (C 0))
  k_Unclosed : PySem.W.keepIn K (.ref (C 0)) = true
  s_Unclosed : PySem.W.subIn K (.ref (C 0)) (.type "BaseException") = some true
  t_Unclosed : PySem.W.typeIn K (.ref (C 0)) = some (.type "type")
  x_Unopened : PySem.W.excIn K (C 1) [.type "ValueError", .type "Exception", .type "BaseException", .type "object"] "ValueError.__new__" = true
  g_Unopened : mg "Unopened" = some (.ref (C 1))
  k_Unopened : PySem.W.keepIn K (.ref (C 1)) = true
  s_Unopened : PySem.W.subIn K (.ref (C 1)) (.type "BaseException") = some true
  t_Unopened : PySem.W.typeIn K (.ref (C 1)) = some (.type "type")
  x_NothingAhead : PySem.W.excIn K (C 2) [.type "ValueError", .type "Exception", .type "BaseException", .type "object"] "ValueError.__new__" = true
  g_NothingAhead : mg "NothingAhead" = some (.ref (C 2))
  k_NothingAhead : PySem.W.keepIn K (.ref (C 2)) = true
  s_NothingAhead : PySem.W.subIn K (.ref (C 2)) (.type "BaseException") = some true
  t_NothingAhead : PySem.W.typeIn K (.ref (C 2)) = some (.type "type")
  x_EmptyRound : PySem.W.excIn K (C 3) [.type "ValueError", .type "Exception", .type "BaseException", .type "object"] "ValueError.__new__" = true
  g_EmptyRound : mg "EmptyRound" = some (.ref (C 3))
  k_EmptyRound : PySem.W.keepIn K (.ref (C 3)) = true
  s_EmptyRound : PySem.W.subIn K (.ref (C 3)) (.type "BaseException") = some true
  t_EmptyRound : PySem.W.typeIn K (.ref (C 3)) = some (.type "type")
  x_TooDeep : PySem.W.excIn K (C 4) [.type "ValueError", .type "Exception", .type "BaseException", .type "object"] "ValueError.__new__" = true
  g_TooDeep : mg "TooDeep" = some (.ref (C 4))
  k_TooDeep : PySem.W.keepIn K (.ref (C 4)) = true
  s_TooDeep : PySem.W.subIn K (.ref (C 4)) (.type "BaseException") = some true
  t_TooDeep : PySem.W.typeIn K (.ref (C 4)) = some (.type "type")
  a_p_takes : Addr
  d_p_takes : FuncData
  a_p_bare : Addr
  d_p_bare : FuncData
  a_p_row_of : Addr
  d_p_row_of : FuncData
  a_p_pick_of : Addr
  d_p_pick_of : FuncData
  a_p_set_at : Addr
  d_p_set_at : FuncData
  a_p_piece_at : Addr
  d_p_piece_at : FuncData
  a_p_repeated : Addr
  d_p_repeated : FuncData
  a_p_closed : Addr
  d_p_closed : FuncData
  a_p_opened : Addr
  d_p_opened : FuncData
  a_p_read : Addr
  d_p_read : FuncData
  a_p_parted : Addr
  d_p_parted : FuncData
  a_p_picked : Addr
  d_p_picked : FuncData
  a_p_built : Addr
  d_p_built : FuncData
  a_p_net_of : Addr
  d_p_net_of : FuncData
  a_p_led_in : Addr
  d_p_led_in : FuncData
  a_p_row_behind : Addr
  d_p_row_behind : FuncData
  a_p_sweep : Addr
  d_p_sweep : FuncData
  a_p_swept : Addr
  d_p_swept : FuncData
  a_p_first : Addr
  d_p_first : FuncData
  a_p_all_found : Addr
  d_p_all_found : FuncData
  a_l_cell_at : Addr
  d_l_cell_at : FuncData
  a_l_sign_by : Addr
  d_l_sign_by : FuncData
  a_l_three_by : Addr
  d_l_three_by : FuncData
  a_l_set_end : Addr
  d_l_set_end : FuncData
  a_l_closed : Addr
  d_l_closed : FuncData
  a_l_grouped : Addr
  d_l_grouped : FuncData
  a_l_wrong_repeat : Addr
  d_l_wrong_repeat : FuncData
  a_l_due : Addr
  d_l_due : FuncData
  a_l_asked : Addr
  d_l_asked : FuncData
  a_l_refusal : Addr
  d_l_refusal : FuncData
  a_l_one_class : Addr
  d_l_one_class : FuncData
  a_l_piece_by : Addr
  d_l_piece_by : FuncData
  a_l_law : Addr
  d_l_law : FuncData
  F_p_takes : Fun K "takes" "takes" s_p_takes a_p_takes d_p_takes
  m_p_takes : mg "takes" = some (.ref a_p_takes)
  b_p_takes : Binds K d_p_takes ["inside", "signs", "sign"] []
  F_p_bare : Fun K "bare" "bare" s_p_bare a_p_bare d_p_bare
  m_p_bare : mg "bare" = some (.ref a_p_bare)
  b_p_bare : Binds K d_p_bare ["tree"] []
  F_p_row_of : Fun K "row_of" "row_of" s_p_row_of a_p_row_of d_p_row_of
  m_p_row_of : mg "row_of" = some (.ref a_p_row_of)
  b_p_row_of : Binds K d_p_row_of ["pieces"] []
  F_p_pick_of : Fun K "pick_of" "pick_of" s_p_pick_of a_p_pick_of d_p_pick_of
  m_p_pick_of : mg "pick_of" = some (.ref a_p_pick_of)
  b_p_pick_of : Binds K d_p_pick_of ["rows"] []
  F_p_set_at : Fun K "set_at" "set_at" s_p_set_at a_p_set_at d_p_set_at
  m_p_set_at : mg "set_at" = some (.ref a_p_set_at)
  b_p_set_at : Binds K d_p_set_at ["pattern", "at"] []
  F_p_piece_at : Fun K "piece_at" "piece_at" s_p_piece_at a_p_piece_at d_p_piece_at
  m_p_piece_at : mg "piece_at" = some (.ref a_p_piece_at)
  b_p_piece_at : Binds K d_p_piece_at ["pattern", "at"] []
  F_p_repeated : Fun K "repeated" "repeated" s_p_repeated a_p_repeated d_p_repeated
  m_p_repeated : mg "repeated" = some (.ref a_p_repeated)
  b_p_repeated : Binds K d_p_repeated ["sign", "ready", "pieces", "eager"] []
  F_p_closed : Fun K "closed" "closed" s_p_closed a_p_closed d_p_closed
  m_p_closed : mg "closed" = some (.ref a_p_closed)
  b_p_closed : Binds K d_p_closed ["frames"] []
  F_p_opened : Fun K "opened" "opened" s_p_opened a_p_opened d_p_opened
  m_p_opened : mg "opened" = some (.ref a_p_opened)
  b_p_opened : Binds K d_p_opened ["frames"] []
  F_p_read : Fun K "read" "read" s_p_read a_p_read d_p_read
  m_p_read : mg "read" = some (.ref a_p_read)
  b_p_read : Binds K d_p_read ["pattern"] []
  F_p_parted : Fun K "parted" "parted" s_p_parted a_p_parted d_p_parted
  m_p_parted : mg "parted" = some (.ref a_p_parted)
  b_p_parted : Binds K d_p_parted ["entry", "then", "eager"] []
  F_p_picked : Fun K "picked" "picked" s_p_picked a_p_picked d_p_picked
  m_p_picked : mg "picked" = some (.ref a_p_picked)
  b_p_picked : Binds K d_p_picked ["parts", "then", "steps"] []
  F_p_built : Fun K "built" "built" s_p_built a_p_built d_p_built
  m_p_built : mg "built" = some (.ref a_p_built)
  b_p_built : Binds K d_p_built ["tree", "then", "steps"] []
  F_p_net_of : Fun K "net_of" "net_of" s_p_net_of a_p_net_of d_p_net_of
  m_p_net_of : mg "net_of" = some (.ref a_p_net_of)
  b_p_net_of : Binds K d_p_net_of ["tree"] []
  F_p_led_in : Fun K "led_in" "led_in" s_p_led_in a_p_led_in d_p_led_in
  m_p_led_in : mg "led_in" = some (.ref a_p_led_in)
  b_p_led_in : Binds K d_p_led_in ["net", "row", "seen", "step", "begin"] []
  F_p_row_behind : Fun K "row_behind" "row_behind" s_p_row_behind a_p_row_behind d_p_row_behind
  m_p_row_behind : mg "row_behind" = some (.ref a_p_row_behind)
  b_p_row_behind : Binds K d_p_row_behind ["net", "before", "sign", "place", "is_open"] []
  F_p_sweep : Fun K "sweep" "sweep" s_p_sweep a_p_sweep d_p_sweep
  m_p_sweep : mg "sweep" = some (.ref a_p_sweep)
  b_p_sweep : Binds K d_p_sweep ["net", "text"] []
  F_p_swept : Fun K "swept" "swept" s_p_swept a_p_swept d_p_swept
  m_p_swept : mg "swept" = some (.ref a_p_swept)
  b_p_swept : Binds K d_p_swept ["net", "text"] []
  F_p_first : Fun K "first" "first" s_p_first a_p_first d_p_first
  m_p_first : mg "first" = some (.ref a_p_first)
  b_p_first : Binds K d_p_first ["pattern", "text"] []
  F_p_all_found : Fun K "all_found" "all_found" s_p_all_found a_p_all_found d_p_all_found
  m_p_all_found : mg "all_found" = some (.ref a_p_all_found)
  b_p_all_found : Binds K d_p_all_found ["pattern", "text"] []
  F_l_cell_at : Fun K "_law_cell_at" "_law_cell_at" s_l_cell_at a_l_cell_at d_l_cell_at
  m_l_cell_at : mg "_law_cell_at" = some (.ref a_l_cell_at)
  b_l_cell_at : Binds K d_l_cell_at ["_law_script", "_law_k"] []
  F_l_sign_by : Fun K "_law_sign_by" "_law_sign_by" s_l_sign_by a_l_sign_by d_l_sign_by
  m_l_sign_by : mg "_law_sign_by" = some (.ref a_l_sign_by)
  b_l_sign_by : Binds K d_l_sign_by ["_law_cell"] []
  F_l_three_by : Fun K "_law_three_by" "_law_three_by" s_l_three_by a_l_three_by d_l_three_by
  m_l_three_by : mg "_law_three_by" = some (.ref a_l_three_by)
  b_l_three_by : Binds K d_l_three_by ["_law_cell"] []
  F_l_set_end : Fun K "_law_set_end" "_law_set_end" s_l_set_end a_l_set_end d_l_set_end
  m_l_set_end : mg "_law_set_end" = some (.ref a_l_set_end)
  b_l_set_end : Binds K d_l_set_end ["_law_pattern", "_law_at"] []
  F_l_closed : Fun K "_law_closed" "_law_closed" s_l_closed a_l_closed d_l_closed
  m_l_closed : mg "_law_closed" = some (.ref a_l_closed)
  b_l_closed : Binds K d_l_closed ["_law_frames"] []
  F_l_grouped : Fun K "_law_grouped" "_law_grouped" s_l_grouped a_l_grouped d_l_grouped
  m_l_grouped : mg "_law_grouped" = some (.ref a_l_grouped)
  b_l_grouped : Binds K d_l_grouped ["_law_frames", "_law_sign"] []
  F_l_wrong_repeat : Fun K "_law_wrong_repeat" "_law_wrong_repeat" s_l_wrong_repeat a_l_wrong_repeat d_l_wrong_repeat
  m_l_wrong_repeat : mg "_law_wrong_repeat" = some (.ref a_l_wrong_repeat)
  b_l_wrong_repeat : Binds K d_l_wrong_repeat ["_law_sign", "_law_ready", "_law_last"] []
  F_l_due : Fun K "_law_due" "_law_due" s_l_due a_l_due d_l_due
  m_l_due : mg "_law_due" = some (.ref a_l_due)
  b_l_due : Binds K d_l_due ["_law_pattern"] []
  F_l_asked : Fun K "_law_asked" "_law_asked" s_l_asked a_l_asked d_l_asked
  m_l_asked : mg "_law_asked" = some (.ref a_l_asked)
  b_l_asked : Binds K d_l_asked ["_law_pattern", "_law_way"] []
  F_l_refusal : Fun K "_law_refusal" "_law_refusal" s_l_refusal a_l_refusal d_l_refusal
  m_l_refusal : mg "_law_refusal" = some (.ref a_l_refusal)
  b_l_refusal : Binds K d_l_refusal ["_law_pattern", "_law_way"] []
  F_l_one_class : Fun K "_law_one_class" "_law_one_class" s_l_one_class a_l_one_class d_l_one_class
  m_l_one_class : mg "_law_one_class" = some (.ref a_l_one_class)
  b_l_one_class : Binds K d_l_one_class ["_law_pattern"] []
  F_l_piece_by : Fun K "_law_piece_by" "_law_piece_by" s_l_piece_by a_l_piece_by d_l_piece_by
  m_l_piece_by : mg "_law_piece_by" = some (.ref a_l_piece_by)
  b_l_piece_by : Binds K d_l_piece_by ["_law_cell", "_law_three"] []
  F_l_law : Fun K "law" "law" s_l_law a_l_law d_l_law
  m_l_law : mg "law" = some (.ref a_l_law)
  b_l_law : Binds K d_l_law ["_law_script"] []
  n_ValueError : mg "ValueError" = none
  n_all : mg "all" = none
  n_any : mg "any" = none
  n_isinstance : mg "isinstance" = none
  n_len : mg "len" = none
  n_list : mg "list" = none
  n_max : mg "max" = none
  n_range : mg "range" = none
  n_reversed : mg "reversed" = none
  n_str : mg "str" = none
  n_tuple : mg "tuple" = none
  t_DEEPEST : Tok
  c_DEEPEST : mg "DEEPEST" = some (.int 30 t_DEEPEST)
section
/-- isinstance(e, ..), e held in slot 1 -/
def tOneB (a : Addr) (b : Bool) : TE := fun σ H Q => σ[1]? = some (some (V.ref a)) ∧ Q (.bl b) H
theorem one_is {X : Cx} (T : Tx X.K X.mg) {c j : Nat} (hc : c < 5) (hj : j < 5) {a : Addr} {oe : Obj} {pn : List (Addr × Obj)} (hz : Zc (.ref (T.C c)) none oe) (hf : ∃ vs, oe.data = .fields vs) {e : Expr} {x : Str} {p p2 pos : Pos}
    (he : PE (X.suite a ((a, oe) :: pn)) e (tVar 1)) (hgi : Gl (X.suite a ((a, oe) :: pn)) "isinstance") (hg : Gl (X.suite a ((a, oe) :: pn)) x) (hm : X.mg x = some (.ref (T.C j))) (hd2 : (x == ("__debug__" : Str)) = false := by decide)
    (hs : starEach [e, .Name x p2] (X.suite a ((a, oe) :: pn)).env = (false, eval e (X.suite a ((a, oe) :: pn)).env) :: starEach [.Name x p2] (X.suite a ((a, oe) :: pn)).env := by rfl) (hs2 : starEach [.Name x p2] (X.suite a ((a, oe) :: pn)).env = (false, eval (.Name x p2) (X.suite a ((a, oe) :: pn)).env) :: starEach [] (X.suite a ((a, oe) :: pn)).env := by rfl)
    (hpl : (backTo pos (starEach [.Name x p2] (X.suite a ((a, oe) :: pn)).env)).any (·.1) = false := by rfl) :
    PE (X.suite a ((a, oe) :: pn)) (.Call (.Name "isinstance" p) [e, .Name x p2] [] pos) (tOneB a (decide (c = j))) :=
  (pe_callB (call_isE (T.exC c hc) hz hf) hgi T.n_isinstance (by decide +kernel) (pa_cons he (pa_cons (pe_glob (v := .ref (T.C j)) hg hm rfl hd2) pa_nil hs2) hs) (by decide) (by decide) hs hpl).to
  fun σ H Q ⟨h1, q⟩ => ⟨_, h1, .ref (T.C j), .ref (T.C j), decide (c = j), rfl, fun u r => r, T.kit c j hc hj, q⟩
theorem one_ve {X : Cx} (T : Tx X.K X.mg) {c : Nat} (hc : c < 5) {a : Addr} {oe : Obj} {pn : List (Addr × Obj)} (hz : Zc (.ref (T.C c)) none oe) (hf : ∃ vs, oe.data = .fields vs) {e : Expr} {p p2 pos : Pos}
    (he : PE (X.suite a ((a, oe) :: pn)) e (tVar 1)) (hgi : Gl (X.suite a ((a, oe) :: pn)) "isinstance") (hg : Gl (X.suite a ((a, oe) :: pn)) "ValueError")
    (hs : starEach [e, .Name "ValueError" p2] (X.suite a ((a, oe) :: pn)).env = (false, eval e (X.suite a ((a, oe) :: pn)).env) :: starEach [.Name "ValueError" p2] (X.suite a ((a, oe) :: pn)).env := by rfl) (hs2 : starEach [.Name "ValueError" p2] (X.suite a ((a, oe) :: pn)).env = (false, eval (.Name "ValueError" p2) (X.suite a ((a, oe) :: pn)).env) :: starEach [] (X.suite a ((a, oe) :: pn)).env := by rfl)
    (hpl : (backTo pos (starEach [.Name "ValueError" p2] (X.suite a ((a, oe) :: pn)).env)).any (·.1) = false := by rfl) :
    PE (X.suite a ((a, oe) :: pn)) (.Call (.Name "isinstance" p) [e, .Name "ValueError" p2] [] pos) (tOneB a true) :=
  (pe_callB (call_isE (T.exC c hc) hz hf) hgi T.n_isinstance (by decide +kernel) (pa_cons he (pa_cons (pe_bltn (v := .ty "ValueError") hg T.n_ValueError (by decide +kernel) rfl (by decide) (by decide)) pa_nil hs2) hs) (by decide) (by decide) hs hpl).to
  fun σ H Q ⟨h1, q⟩ => ⟨_, h1, .ty "ValueError", .type "ValueError", true, rfl, fun u r => r, T.kiV c hc, q⟩
theorem one_hot {X : Cx} {a : Addr} {oe : Obj} {pn : List (Addr × Obj)} {cls : Value} {d : Option Addr} (hz : L2N.Zn cls d oe) (hf : ∃ vs, oe.data = .fields vs) : L2H.HotC (X.suite a ((a, oe) :: pn)) := by
  obtain ⟨vs, hv⟩ := hf
  exact ⟨(a, oe), ⟨rfl, vs, hv, hz.2.2 vs hv⟩, List.mem_cons_self⟩
def one_ts (C : Nat → Addr) : Addr → Value → Option Addr → TS := fun a cls d D σ H => ∃ c, c < 5 ∧ cls = .ref (C c) ∧ d = none ∧ σ.length = 4 ∧ σ[1]? = some (some (V.ref a)) ∧ ∀ H', Ext H H' → D.rt (.bl true) H'
theorem one_hts {K : PySem.W.Frag} {mg : Str → Option Value} (T : Tx K mg) (a : Addr) (c : Nat) (D : Ends) (σ : L2.St) (H : Hp) (hc : c < 5) (na : H a = none) (hl : σ.length = 4) (h1 : σ[1]? = some (some (V.ref a))) (q : ∀ H', Ext H H' → D.rt (.bl true) H') : one_ts T.C a (.ref (T.C c)) none D σ H :=
  ⟨c, hc, rfl, rfl, hl, h1, q⟩
theorem one_cnt {c : Nat} (hc : c < 5) : (([decide (c = 0), decide (c = 1), decide (c = 2), decide (c = 3), decide (c = 4)] : List Bool).filter id).length = 1 := by
  match c, hc with
  | 0, _ => rfl
  | 1, _ => rfl
  | 2, _ => rfl
  | 3, _ => rfl
  | 4, _ => rfl
  | _ + 5, h => omega
theorem ext_upd {H : Hp} {p : Addr} {o : HO} (h : H p = none) : Ext H (upd H p o) := fun b u e => by rw [upd_ne (ne_of_none e h)]; exact e
/-- what the suite asks, statement by statement -/
theorem one_law {K : PySem.W.Frag} {a : Addr} {c : Nat} {D : Ends} {σ : L2.St} {H : Hp} (hc : c < 5) (hl : σ.length = 4) (h1 : σ[1]? = some (some (V.ref a))) (q : ∀ H', Ext H H' → D.rt (.bl true) H') :
    tSeq (tAsg (tLst (tCons (tOneB a (decide (c = 0))) (tCons (tOneB a (decide (c = 1))) (tCons (tOneB a (decide (c = 2))) tNil)))) (gName 2))
      (tSeq (tAsg (tOp rCat (tVar 2) (tLst (tCons (tOneB a (decide (c = 3))) (tCons (tOneB a (decide (c = 4))) tNil)))) (gName 2))
        (tRet (tAndV (tOneB a true) (tOp rEq (tCB (fun xs H Q => ∃ p ys, xs = [.ref p] ∧ (SqL K H p ys ∨ SqT K H p ys) ∧ Q (.int ys.length) H) (tCons (tKeep 3 2) tNil)) (tC (.int 1)))))) D σ H := by
  have cnt := one_cnt hc
  generalize decide (c = 0) = b0 at *
  generalize decide (c = 1) = b1 at *
  generalize decide (c = 2) = b2 at *
  generalize decide (c = 3) = b3 at *
  generalize decide (c = 4) = b4 at *
  have z2 : ∀ (τ : L2.St) (v : V), τ.length = 4 → (τ.set 2 (some v))[2]? = some (some v) := fun τ v h => by rw [List.getElem?_set]; simp [h]
  have z1 : ∀ (τ : L2.St) (v : Option V), (τ.set 2 v)[1]? = τ[1]? := fun τ v => by rw [List.getElem?_set_ne (by decide)]
  have sl : ∀ {n : Nat}, n ≤ 100 → n ≤ sizeLine := fun h => l100 h
  refine ⟨h1, h1, h1, sl (by simp), fun p hp => ?_⟩
  have e1 : Ext H (upd H p (.lst [.bl b0, .bl b1, .bl b2])) := ext_upd hp
  have a1 : (upd H p (.lst [.bl b0, .bl b1, .bl b2])) p = some (.lst [.bl b0, .bl b1, .bl b2]) := upd_same
  generalize upd H p (.lst [.bl b0, .bl b1, .bl b2]) = H1 at *
  have hl1 : (σ.set 2 (some (V.ref p))).length = 4 := by rw [List.length_set]; exact hl
  have h11 : (σ.set 2 (some (V.ref p)))[1]? = some (some (V.ref a)) := (z1 _ _).trans h1
  show tSeq _ _ D (σ.set 2 (some (V.ref p))) H1
  have h12 := z2 σ (.ref p) hl
  generalize σ.set 2 (some (V.ref p)) = σ1 at *
  refine ⟨_, h12, h11, h11, sl (by simp), fun p2 hp2 => ?_⟩
  have a2 : (upd H1 p2 (.lst [.bl b3, .bl b4])) p = some (.lst [.bl b0, .bl b1, .bl b2]) := ext_upd hp2 _ _ a1
  have a3 : (upd H1 p2 (.lst [.bl b3, .bl b4])) p2 = some (.lst [.bl b3, .bl b4]) := upd_same
  have e2 : Ext H (upd H1 p2 (.lst [.bl b3, .bl b4])) := e1.trans (ext_upd hp2)
  generalize upd H1 p2 (.lst [.bl b3, .bl b4]) = H2 at *
  refine ⟨p, p2, _, _, rfl, rfl, a2, a3, sl (by simp), fun p3 hp3 => ?_⟩
  have a4 : (upd H2 p3 (.lst ([.bl b0, .bl b1, .bl b2] ++ [.bl b3, .bl b4]))) p3 = some (.lst ([b0, b1, b2, b3, b4].map V.bl)) := upd_same
  have e3 : Ext H (upd H2 p3 (.lst ([.bl b0, .bl b1, .bl b2] ++ [.bl b3, .bl b4]))) := e2.trans (ext_upd hp3)
  generalize upd H2 p3 (.lst ([.bl b0, .bl b1, .bl b2] ++ [.bl b3, .bl b4])) = H3 at *
  dsimp only [gName, tRet]
  have h21 : (σ1.set 2 (some (V.ref p3)))[1]? = some (some (V.ref a)) := (z1 _ _).trans h11
  have h22 := z2 σ1 (.ref p3) hl1
  have hl2 : (σ1.set 2 (some (V.ref p3))).length = 4 := by rw [List.length_set]; exact hl1
  generalize σ1.set 2 (some (V.ref p3)) = σ2 at *
  have lb : ([b0, b1, b2, b3, b4] : List Bool).length ≤ 5 := by simp
  generalize [b0, b1, b2, b3, b4] = bs at *
  refine ⟨h21, true, rfl, ?_⟩
  rw [if_pos rfl]
  refine ⟨p3, bs, h22, by rw [hl2]; decide, a4, by omega, fun Dn H' hE hD => ⟨Dn, _, rfl, .inl (SqL.of hD), rfl, ?_⟩⟩
  rw [List.length_map, cnt]
  exact q H' (e3.trans hE)
end

section
variable {P : Program} {w : World} {K : PySem.W.Frag} {mg : Str → Option Value} {base : Heap}
theorem ok_p_takes (T : Tx K mg) : FnOk P w K mg base CX0 1 T.a_p_takes T.d_p_takes ["inside", "signs", "sign"] (spP K T.C 3 f_p_takes) :=
  fn_P (C := T.C) (N := ["inside", "signs", "sign"]) (ps := ["inside", "signs", "sign"]) (k := 0) (m := b_p_takes) T.F_p_takes sc_p_takes fun cdv A outer s H E hr => by
    have hu := hr.units
    exact (ss_one (sm_ret (pm_cmp (sem_eq hu) (pm_cmp (sem_in hu) (pm_v (pv 2)) (pm_v (pv 1)) (by rfl)) (pm_v (pv 0)) (nomark _))))
theorem st_p_bare (T : Tx K mg) {n : Nat} {r_p_bare : List D → R D} (G_p_bare : FnOk P w K mg base CX0 (0 + n) T.a_p_bare T.d_p_bare ["tree"] (spP K T.C 1 r_p_bare)) : FnOk P w K mg base CX0 (0 + n + 1) T.a_p_bare T.d_p_bare ["tree"] (spP K T.C 1 fun ds => (run 2 (b_p_bare r_p_bare) ds).nox) :=
  fn_P (C := T.C) (N := ["tree", "part"]) (ps := ["tree"]) (k := 0 + n) (m := b_p_bare r_p_bare) T.F_p_bare sc_p_bare fun cdv A outer s H E hr => by
    have hu := hr.units
    exact (ss_cons (sm_if (tm_cmp (sem_eq hu) (pm_ix (pm_v (pv 0)) pm_int) pm_str (nomark _)) (ss_one (sm_ret pm_bl)) ss_nil)
    (ss_cons (sm_if (tm_cmp (sem_eq hu) (pm_ix (pm_v (pv 0)) pm_int) pm_str (nomark _)) (ss_one (sm_ret (pm_b1 (sem_all rfl) (by rfl) T.n_all (by decide +kernel) (pm_lc (x := "part") rfl (sc_p_bare).nd (im_seq (pm_ix (pm_v (pv 0)) pm_int)) (blkOk_by (N := ["tree", "part"]) (sc := defScope s_p_bare) (by decide +kernel)) (fun _ _ _ _ _ => pg_name (i := 1) (sc_p_bare).nd rfl (Or.inl rfl)) (fun _ _ _ _ _ => sts_nil) (fun _ _ _ _ _ => (pm_call (C := T.C) G_p_bare hr (by rfl) T.m_p_bare T.F_p_bare.kp T.b_p_bare pass0 (fun _ _ _ z => z.elim) (am_cons (pm_v (pv 1)) am_nil) (alen_cons alen_nil))))))) ss_nil)
    (ss_cons (sm_if (tm_cmp (sem_eq hu) (pm_ix (pm_v (pv 0)) pm_int) pm_str (nomark _)) (ss_one (sm_ret (pm_b1 (sem_any rfl) (by rfl) T.n_any (by decide +kernel) (pm_lc (x := "part") rfl (sc_p_bare).nd (im_seq (pm_ix (pm_v (pv 0)) pm_int)) (blkOk_by (N := ["tree", "part"]) (sc := defScope s_p_bare) (by decide +kernel)) (fun _ _ _ _ _ => pg_name (i := 1) (sc_p_bare).nd rfl (Or.inl rfl)) (fun _ _ _ _ _ => sts_nil) (fun _ _ _ _ _ => (pm_call (C := T.C) G_p_bare hr (by rfl) T.m_p_bare T.F_p_bare.kp T.b_p_bare pass0 (fun _ _ _ z => z.elim) (am_cons (pm_v (pv 1)) am_nil) (alen_cons alen_nil))))))) ss_nil)
    (ss_one (sm_ret pm_bl)))))
theorem all_p_bare (T : Tx K mg) (n : Nat) : FnOk P w K mg base CX0 (0 + n) T.a_p_bare T.d_p_bare ["tree"] (spP K T.C 1 (f_p_bare n)) := by
  induction n with
  | zero => exact fn_none (C := T.C) (φ := f_p_bare 0) (fun _ => by rw [f_p_bare])
  | succ n ih => exact (by rw [f_p_bare]; exact st_p_bare T ih)
theorem ok_p_bare (T : Tx K mg) (n : Nat) : FnOk P w K mg base CX0 (0 + n) T.a_p_bare T.d_p_bare ["tree"] (spP K T.C 1 (f_p_bare n)) := (all_p_bare T n)
theorem ok_p_row_of (T : Tx K mg) : FnOk P w K mg base CX0 1 T.a_p_row_of T.d_p_row_of ["pieces"] (spP K T.C 1 f_p_row_of) :=
  fn_P (C := T.C) (N := ["pieces"]) (ps := ["pieces"]) (k := 0) (m := b_p_row_of) T.F_p_row_of sc_p_row_of fun cdv A outer s H E hr => by
    have hu := hr.units
    exact (ss_cons (sm_if (tm_cmp (sem_eq hu) (pm_b1 sem_len (by rfl) T.n_len (by decide +kernel) (pm_v (pv 0))) pm_int (nomark _)) (ss_one (sm_ret (pm_ix (pm_v (pv 0)) pm_int))) ss_nil)
    (ss_one (sm_ret (pm_tup (am_cons pm_str (am_cons (pm_t1 sem_tup (by rfl) T.n_tuple (by decide +kernel) (pm_v (pv 0))) am_nil))))))
theorem ok_p_pick_of (T : Tx K mg) : FnOk P w K mg base CX0 1 T.a_p_pick_of T.d_p_pick_of ["rows"] (spP K T.C 1 f_p_pick_of) :=
  fn_P (C := T.C) (N := ["rows"]) (ps := ["rows"]) (k := 0) (m := b_p_pick_of) T.F_p_pick_of sc_p_pick_of fun cdv A outer s H E hr => by
    have hu := hr.units
    exact (ss_cons (sm_if (tm_cmp (sem_eq hu) (pm_b1 sem_len (by rfl) T.n_len (by decide +kernel) (pm_v (pv 0))) pm_int (nomark _)) (ss_one (sm_ret (pm_ix (pm_v (pv 0)) pm_int))) ss_nil)
    (ss_one (sm_ret (pm_tup (am_cons pm_str (am_cons (pm_t1 sem_tup (by rfl) T.n_tuple (by decide +kernel) (pm_v (pv 0))) am_nil))))))
theorem ok_p_set_at (T : Tx K mg) : FnOk P w K mg base (L2N.CX P w) 1 T.a_p_set_at T.d_p_set_at ["pattern", "at"] (spP K T.C 2 f_p_set_at) :=
  fn_PN (C := T.C) (N := ["pattern", "at", "inside", "signs"]) (ps := ["pattern", "at"]) (k := 0) (m := b_p_set_at) T.F_p_set_at sc_p_set_at fun cdv A outer s H E hr => by
    have hu := hr.units
    exact (ss_cons (sm_set (i := 2) (sc_p_set_at).nd rfl (.inl rfl) pm_bl)
    (ss_cons (sm_set (i := 3) (sc_p_set_at).nd rfl (.inl rfl) pm_str)
    (ss_cons (sm_if (tm_cmp (sem_eq hu) (pm_sl (pm_v (pv 0)) (om_s (pm_v (pv 1))) (om_s (pm_op sem_add (pm_v (pv 1)) pm_int))) pm_str (nomark _)) (ss_cons (sm_set (i := 2) (sc_p_set_at).nd rfl (.inl rfl) pm_bl)
    (ss_one (sm_set (i := 1) (sc_p_set_at).nd rfl (.inl rfl) (pm_op sem_add (pm_v (pv 1)) pm_int)))) ss_nil)
    (ss_cons (sm_while (L2.passes_of rfl) (tm_cmp (sem_ne hu) (pm_sl (pm_v (pv 0)) (om_s (pm_v (pv 1))) (om_s (pm_op sem_add (pm_v (pv 1)) pm_int))) pm_str (nomark _)) (ss_cons (sm_if (tm_cmp (sem_eq hu) (pm_sl (pm_v (pv 0)) (om_s (pm_v (pv 1))) (om_s (pm_op sem_add (pm_v (pv 1)) pm_int))) pm_str (nomark _)) (ss_one (sm_set (i := 1) (sc_p_set_at).nd rfl (.inl rfl) (pm_op sem_add (pm_v (pv 1)) pm_int))) ss_nil)
    (ss_cons (sm_if (tm_cmp sem_ge (pm_v (pv 1)) (pm_b1 sem_len (by rfl) T.n_len (by decide +kernel) (pm_v (pv 0))) (nomark _)) (ss_one (sm_raise (C := T.C) (W := fun cls d _ H => E cls d H) rfl (L2N.takes_of rfl rfl rfl rfl) (fun _ _ h => h) PySem.F.excBase_ValueError T.x_Unclosed T.g_Unclosed T.k_Unclosed (raises_own T.s_Unclosed T.t_Unclosed) (by rfl))) ss_nil)
    (ss_cons (sm_set (i := 3) (sc_p_set_at).nd rfl (.inl rfl) (pm_op sem_add (pm_v (pv 3)) (pm_ix (pm_v (pv 0)) (pm_v (pv 1)))))
    (ss_one (sm_set (i := 1) (sc_p_set_at).nd rfl (.inl rfl) (pm_op sem_add (pm_v (pv 1)) pm_int)))))))
    (ss_one (sm_ret (pm_tup (am_cons (pm_tup (am_cons pm_str (am_cons (pm_v (pv 2)) (am_cons (pm_v (pv 3)) am_nil)))) (am_cons (pm_op sem_add (pm_v (pv 1)) pm_int) am_nil)))))))))
theorem ok_p_piece_at (T : Tx K mg) : FnOk P w K mg base (L2N.CX P w) 2 T.a_p_piece_at T.d_p_piece_at ["pattern", "at"] (spP K T.C 2 f_p_piece_at) :=
  fn_PN (C := T.C) (N := ["pattern", "at", "sign"]) (ps := ["pattern", "at"]) (k := 1) (m := b_p_piece_at) T.F_p_piece_at sc_p_piece_at fun cdv A outer s H E hr => by
    have hu := hr.units
    exact (ss_cons (sm_set (i := 2) (sc_p_piece_at).nd rfl (.inl rfl) (pm_ix (pm_v (pv 0)) (pm_v (pv 1))))
    (ss_cons (sm_if (tm_cmp (sem_eq hu) (pm_v (pv 2)) pm_str (nomark _)) (ss_one (sm_raise (C := T.C) (W := fun cls d _ H => E cls d H) rfl (L2N.takes_of rfl rfl rfl rfl) (fun _ _ h => h) PySem.F.excBase_ValueError T.x_Unopened T.g_Unopened T.k_Unopened (raises_own T.s_Unopened T.t_Unopened) (by rfl))) ss_nil)
    (ss_cons (sm_if (tm_cmp (sem_eq hu) (pm_v (pv 2)) pm_str (nomark _)) (ss_one (sm_ret (pm_call (C := T.C) (EK := E) (ok_p_set_at T) (hr.mono (by decide)) (by rfl) T.m_p_set_at T.F_p_set_at.kp T.b_p_set_at (L2N.passes_call (W := fun cls d _ H => E cls d H) (E := E) (L2N.takes_of rfl rfl rfl rfl) (fun _ _ _ _ h => h)) (fun _ _ _ h => h) (am_cons (pm_v (pv 0)) (am_cons (pm_op sem_add (pm_v (pv 1)) pm_int) am_nil)) (alen_cons (alen_cons alen_nil))))) ss_nil)
    (ss_cons (sm_if (tm_cmp (sem_eq hu) (pm_v (pv 2)) pm_str (nomark _)) (ss_one (sm_ret (pm_tup (am_cons (pm_tup (am_cons pm_str (am_cons pm_bl (am_cons pm_str am_nil)))) (am_cons (pm_op sem_add (pm_v (pv 1)) pm_int) am_nil))))) ss_nil)
    (ss_cons (sm_if (tm_cmp (sem_eq hu) (pm_v (pv 2)) pm_str (nomark _)) (ss_cons (sm_if (tm_cmp sem_ge (pm_op sem_add (pm_v (pv 1)) pm_int) (pm_b1 sem_len (by rfl) T.n_len (by decide +kernel) (pm_v (pv 0))) (nomark _)) (ss_one (sm_raise (C := T.C) (W := fun cls d _ H => E cls d H) rfl (L2N.takes_of rfl rfl rfl rfl) (fun _ _ h => h) PySem.F.excBase_ValueError T.x_Unclosed T.g_Unclosed T.k_Unclosed (raises_own T.s_Unclosed T.t_Unclosed) (by rfl))) ss_nil)
    (ss_one (sm_ret (pm_tup (am_cons (pm_tup (am_cons pm_str (am_cons pm_bl (am_cons (pm_ix (pm_v (pv 0)) (pm_op sem_add (pm_v (pv 1)) pm_int)) am_nil)))) (am_cons (pm_op sem_add (pm_v (pv 1)) pm_int) am_nil)))))) ss_nil)
    (ss_one (sm_ret (pm_tup (am_cons (pm_tup (am_cons pm_str (am_cons pm_bl (am_cons (pm_v (pv 2)) am_nil)))) (am_cons (pm_op sem_add (pm_v (pv 1)) pm_int) am_nil))))))))))
theorem ok_p_repeated (T : Tx K mg) : FnOk P w K mg base (L2N.CX P w) 201 T.a_p_repeated T.d_p_repeated ["sign", "ready", "pieces", "eager"] (spP K T.C 4 f_p_repeated) :=
  fn_PN (C := T.C) (N := ["sign", "ready", "pieces", "eager", "part"]) (ps := ["sign", "ready", "pieces", "eager"]) (k := 200) (m := b_p_repeated) T.F_p_repeated sc_p_repeated fun cdv A outer s H E hr => by
    have hu := hr.units
    exact (ss_cons (sm_if (tm_not (tm_truth (pm_v (pv 1)))) (ss_one (sm_raise (C := T.C) (W := fun cls d _ H => E cls d H) rfl (L2N.takes_of rfl rfl rfl rfl) (fun _ _ h => h) PySem.F.excBase_ValueError T.x_NothingAhead T.g_NothingAhead T.k_NothingAhead (raises_own T.s_NothingAhead T.t_NothingAhead) (by rfl))) ss_nil)
    (ss_cons (sm_set (i := 4) (sc_p_repeated).nd rfl (.inl rfl) (pm_ix (pm_v (pv 2)) (pm_neg pm_int)))
    (ss_cons (sm_if (tm_cmp (sem_eq hu) (pm_v (pv 0)) pm_str (nomark _)) (ss_one (sm_ret (pm_tup (am_cons pm_str (am_cons (pm_v (pv 4)) (am_cons (pm_v (pv 3)) am_nil)))))) ss_nil)
    (ss_cons (sm_if (tm_truth (pm_call (C := T.C) (EK := E) (ok_p_bare T 200) (hr.mono (by decide)) (by rfl) T.m_p_bare T.F_p_bare.kp T.b_p_bare pass0 (fun _ _ _ h => h) (am_cons (pm_v (pv 4)) am_nil) (alen_cons alen_nil))) (ss_one (sm_raise (C := T.C) (W := fun cls d _ H => E cls d H) rfl (L2N.takes_of rfl rfl rfl rfl) (fun _ _ h => h) PySem.F.excBase_ValueError T.x_EmptyRound T.g_EmptyRound T.k_EmptyRound (raises_own T.s_EmptyRound T.t_EmptyRound) (by rfl))) ss_nil)
    (ss_one (sm_ret (pm_tup (am_cons pm_str (am_cons (pm_v (pv 4)) (am_cons (pm_v (pv 3)) am_nil))))))))))
theorem ok_p_closed (T : Tx K mg) : FnOk P w K mg base (L2N.CX P w) 2 T.a_p_closed T.d_p_closed ["frames"] (spP K T.C 1 f_p_closed) :=
  fn_PN (C := T.C) (N := ["frames", "last", "above", "tree"]) (ps := ["frames"]) (k := 1) (m := b_p_closed) T.F_p_closed sc_p_closed fun cdv A outer s H E hr => by
    have hu := hr.units
    exact (ss_cons (sm_if (tm_cmp (sem_eq hu) (pm_b1 sem_len (by rfl) T.n_len (by decide +kernel) (pm_v (pv 0))) pm_int (nomark _)) (ss_one (sm_raise (C := T.C) (W := fun cls d _ H => E cls d H) rfl (L2N.takes_of rfl rfl rfl rfl) (fun _ _ h => h) PySem.F.excBase_ValueError T.x_Unopened T.g_Unopened T.k_Unopened (raises_own T.s_Unopened T.t_Unopened) (by rfl))) ss_nil)
    (ss_cons (sm_set (i := 1) (sc_p_closed).nd rfl (.inl rfl) (pm_ix (pm_v (pv 0)) (pm_neg pm_int)))
    (ss_cons (sm_set (i := 2) (sc_p_closed).nd rfl (.inl rfl) (pm_ix (pm_v (pv 0)) (pm_neg pm_int)))
    (ss_cons (sm_set (i := 3) (sc_p_closed).nd rfl (.inl rfl) (pm_call (C := T.C) (EK := E) (ok_p_pick_of T) (hr.mono (by decide)) (by rfl) T.m_p_pick_of T.F_p_pick_of.kp T.b_p_pick_of pass0 (fun _ _ _ h => h) (am_cons (pm_op sem_add (pm_ix (pm_v (pv 1)) pm_int) (pm_lst (am_cons (pm_call (C := T.C) (EK := E) (ok_p_row_of T) (hr.mono (by decide)) (by rfl) T.m_p_row_of T.F_p_row_of.kp T.b_p_row_of pass0 (fun _ _ _ h => h) (am_cons (pm_ix (pm_v (pv 1)) pm_int) am_nil) (alen_cons alen_nil)) am_nil))) am_nil) (alen_cons alen_nil)))
    (ss_one (sm_ret (pm_op sem_add (pm_sl (pm_v (pv 0)) om_n (om_s (pm_neg pm_int))) (pm_lst (am_cons (pm_tup (am_cons (pm_ix (pm_v (pv 2)) pm_int) (am_cons (pm_op sem_add (pm_ix (pm_v (pv 2)) pm_int) (pm_lst (am_cons (pm_v (pv 3)) am_nil))) am_nil))) am_nil)))))))))
theorem ok_p_opened (T : Tx K mg) : FnOk P w K mg base (L2N.CX P w) 1 T.a_p_opened T.d_p_opened ["frames"] (spP K T.C 1 f_p_opened) :=
  fn_PN (C := T.C) (N := ["frames"]) (ps := ["frames"]) (k := 0) (m := b_p_opened) T.F_p_opened sc_p_opened fun cdv A outer s H E hr => by
    have hu := hr.units
    exact (ss_cons (sm_if (tm_cmp sem_gt (pm_b1 sem_len (by rfl) T.n_len (by decide +kernel) (pm_v (pv 0))) (pm_globI (by rfl) T.c_DEEPEST) (nomark _)) (ss_one (sm_raise (C := T.C) (W := fun cls d _ H => E cls d H) rfl (L2N.takes_of rfl rfl rfl rfl) (fun _ _ h => h) PySem.F.excBase_ValueError T.x_TooDeep T.g_TooDeep T.k_TooDeep (raises_own T.s_TooDeep T.t_TooDeep) (by rfl))) ss_nil)
    (ss_one (sm_ret (pm_op sem_add (pm_v (pv 0)) (pm_lst (am_cons (pm_tup (am_cons (pm_lst am_nil) (am_cons (pm_lst am_nil) am_nil))) am_nil))))))
theorem ok_p_read (T : Tx K mg) : FnOk P w K mg base (L2N.CX P w) 202 T.a_p_read T.d_p_read ["pattern"] (spP K T.C 1 f_p_read) :=
  fn_PN (C := T.C) (N := ["pattern", "frames", "ready", "at", "sign", "rows", "pieces", "eager", "part", "piece"]) (ps := ["pattern"]) (k := 201) (m := b_p_read) T.F_p_read sc_p_read fun cdv A outer s H E hr => by
    have hu := hr.units
    exact (ss_cons (sm_set (i := 1) (sc_p_read).nd rfl (.inl rfl) (pm_lst (am_cons (pm_tup (am_cons (pm_lst am_nil) (am_cons (pm_lst am_nil) am_nil))) am_nil)))
    (ss_cons (sm_set (i := 2) (sc_p_read).nd rfl (.inl rfl) pm_bl)
    (ss_cons (sm_set (i := 3) (sc_p_read).nd rfl (.inl rfl) pm_int)
    (ss_cons (sm_while (L2.passes_of rfl) (tm_cmp sem_lt (pm_v (pv 3)) (pm_b1 sem_len (by rfl) T.n_len (by decide +kernel) (pm_v (pv 0))) (nomark _)) (ss_cons (sm_set (i := 4) (sc_p_read).nd rfl (.inl rfl) (pm_ix (pm_v (pv 0)) (pm_v (pv 3))))
    (ss_cons (sm_set (i := 5) (sc_p_read).nd rfl (.inl rfl) (pm_ix (pm_ix (pm_v (pv 1)) (pm_neg pm_int)) pm_int))
    (ss_cons (sm_set (i := 6) (sc_p_read).nd rfl (.inl rfl) (pm_ix (pm_ix (pm_v (pv 1)) (pm_neg pm_int)) pm_int))
    (ss_cons (sm_if (tm_cmp (sem_eq hu) (pm_v (pv 4)) pm_str (nomark _)) (ss_one (sm_set (i := 1) (sc_p_read).nd rfl (.inl rfl) (pm_call (C := T.C) (EK := E) (ok_p_opened T) (hr.mono (by decide)) (by rfl) T.m_p_opened T.F_p_opened.kp T.b_p_opened (L2N.passes_call (W := fun cls d _ H => E cls d H) (E := E) (L2N.takes_of rfl rfl rfl rfl) (fun _ _ _ _ h => h)) (fun _ _ _ h => h) (am_cons (pm_v (pv 1)) am_nil) (alen_cons alen_nil)))) (ss_one (sm_if (tm_cmp (sem_eq hu) (pm_v (pv 4)) pm_str (nomark _)) (ss_one (sm_set (i := 1) (sc_p_read).nd rfl (.inl rfl) (pm_call (C := T.C) (EK := E) (ok_p_closed T) (hr.mono (by decide)) (by rfl) T.m_p_closed T.F_p_closed.kp T.b_p_closed (L2N.passes_call (W := fun cls d _ H => E cls d H) (E := E) (L2N.takes_of rfl rfl rfl rfl) (fun _ _ _ _ h => h)) (fun _ _ _ h => h) (am_cons (pm_v (pv 1)) am_nil) (alen_cons alen_nil)))) (ss_one (sm_if (tm_cmp (sem_eq hu) (pm_v (pv 4)) pm_str (nomark _)) (ss_one (sm_set (i := 1) (sc_p_read).nd rfl (.inl rfl) (pm_op sem_add (pm_sl (pm_v (pv 1)) om_n (om_s (pm_neg pm_int))) (pm_lst (am_cons (pm_tup (am_cons (pm_op sem_add (pm_v (pv 5)) (pm_lst (am_cons (pm_call (C := T.C) (EK := E) (ok_p_row_of T) (hr.mono (by decide)) (by rfl) T.m_p_row_of T.F_p_row_of.kp T.b_p_row_of pass0 (fun _ _ _ h => h) (am_cons (pm_v (pv 6)) am_nil) (alen_cons alen_nil)) am_nil))) (am_cons (pm_lst am_nil) am_nil))) am_nil))))) (ss_one (sm_if (PW.pt (wm_or (tm_cmp (sem_eq hu) (pm_v (pv 4)) pm_str (nomark _)) (wm_or1 (tm_cmp (sem_eq hu) (pm_v (pv 4)) pm_str (nomark _))))) (ss_cons (sm_set (i := 7) (sc_p_read).nd rfl (.inl rfl) (pm_cmp (sem_ne hu) (pm_sl (pm_v (pv 0)) (om_s (pm_op sem_add (pm_v (pv 3)) pm_int)) (om_s (pm_op sem_add (pm_v (pv 3)) pm_int))) pm_str (nomark _)))
    (ss_cons (sm_set (i := 8) (sc_p_read).nd rfl (.inl rfl) (pm_call (C := T.C) (EK := E) (ok_p_repeated T) (hr.mono (by decide)) (by rfl) T.m_p_repeated T.F_p_repeated.kp T.b_p_repeated (L2N.passes_call (W := fun cls d _ H => E cls d H) (E := E) (L2N.takes_of rfl rfl rfl rfl) (fun _ _ _ _ h => h)) (fun _ _ _ h => h) (am_cons (pm_v (pv 4)) (am_cons (pm_v (pv 2)) (am_cons (pm_v (pv 6)) (am_cons (pm_v (pv 7)) am_nil)))) (alen_cons (alen_cons (alen_cons (alen_cons alen_nil))))))
    (ss_cons (sm_set (i := 1) (sc_p_read).nd rfl (.inl rfl) (pm_op sem_add (pm_sl (pm_v (pv 1)) om_n (om_s (pm_neg pm_int))) (pm_lst (am_cons (pm_tup (am_cons (pm_v (pv 5)) (am_cons (pm_op sem_add (pm_sl (pm_v (pv 6)) om_n (om_s (pm_neg pm_int))) (pm_lst (am_cons (pm_v (pv 8)) am_nil))) am_nil))) am_nil))))
    (ss_one (sm_if (tm_not (tm_truth (pm_v (pv 7)))) (ss_one (sm_set (i := 3) (sc_p_read).nd rfl (.inl rfl) (pm_op sem_add (pm_v (pv 3)) pm_int))) ss_nil))))) (ss_cons (sm_set (i := 9) (sc_p_read).nd rfl (.inl rfl) (pm_call (C := T.C) (EK := E) (ok_p_piece_at T) (hr.mono (by decide)) (by rfl) T.m_p_piece_at T.F_p_piece_at.kp T.b_p_piece_at (L2N.passes_call (W := fun cls d _ H => E cls d H) (E := E) (L2N.takes_of rfl rfl rfl rfl) (fun _ _ _ _ h => h)) (fun _ _ _ h => h) (am_cons (pm_v (pv 0)) (am_cons (pm_v (pv 3)) am_nil)) (alen_cons (alen_cons alen_nil))))
    (ss_cons (sm_set (i := 1) (sc_p_read).nd rfl (.inl rfl) (pm_op sem_add (pm_sl (pm_v (pv 1)) om_n (om_s (pm_neg pm_int))) (pm_lst (am_cons (pm_tup (am_cons (pm_v (pv 5)) (am_cons (pm_op sem_add (pm_v (pv 6)) (pm_lst (am_cons (pm_ix (pm_v (pv 9)) pm_int) am_nil))) am_nil))) am_nil))))
    (ss_one (sm_set (i := 3) (sc_p_read).nd rfl (.inl rfl) (pm_op sem_sub (pm_ix (pm_v (pv 9)) pm_int) pm_int))))))))))))
    (ss_cons (sm_set (i := 2) (sc_p_read).nd rfl (.inl rfl) (pm_cmp (sem_nin hu) (pm_v (pv 4)) pm_str (by rfl)))
    (ss_one (sm_set (i := 3) (sc_p_read).nd rfl (.inl rfl) (pm_op sem_add (pm_v (pv 3)) pm_int)))))))))
    (ss_cons (sm_if (tm_cmp sem_gt (pm_b1 sem_len (by rfl) T.n_len (by decide +kernel) (pm_v (pv 1))) pm_int (nomark _)) (ss_one (sm_raise (C := T.C) (W := fun cls d _ H => E cls d H) rfl (L2N.takes_of rfl rfl rfl rfl) (fun _ _ h => h) PySem.F.excBase_ValueError T.x_Unclosed T.g_Unclosed T.k_Unclosed (raises_own T.s_Unclosed T.t_Unclosed) (by rfl))) ss_nil)
    (ss_one (sm_ret (pm_call (C := T.C) (EK := E) (ok_p_pick_of T) (hr.mono (by decide)) (by rfl) T.m_p_pick_of T.F_p_pick_of.kp T.b_p_pick_of pass0 (fun _ _ _ h => h) (am_cons (pm_op sem_add (pm_ix (pm_ix (pm_v (pv 1)) pm_int) pm_int) (pm_lst (am_cons (pm_call (C := T.C) (EK := E) (ok_p_row_of T) (hr.mono (by decide)) (by rfl) T.m_p_row_of T.F_p_row_of.kp T.b_p_row_of pass0 (fun _ _ _ h => h) (am_cons (pm_ix (pm_ix (pm_v (pv 1)) pm_int) pm_int) am_nil) (alen_cons alen_nil)) am_nil))) am_nil) (alen_cons alen_nil)))))))))
theorem ok_p_parted (T : Tx K mg) : FnOk P w K mg base CX0 1 T.a_p_parted T.d_p_parted ["entry", "then", "eager"] (spP K T.C 3 f_p_parted) :=
  fn_P (C := T.C) (N := ["entry", "then", "eager"]) (ps := ["entry", "then", "eager"]) (k := 0) (m := b_p_parted) T.F_p_parted sc_p_parted fun cdv A outer s H E hr => by
    have hu := hr.units
    exact (ss_cons (sm_if (tm_truth (pm_v (pv 2))) (ss_one (sm_ret (pm_tup (am_cons pm_str (am_cons (pm_v (pv 0)) (am_cons (pm_v (pv 1)) am_nil)))))) ss_nil)
    (ss_one (sm_ret (pm_tup (am_cons pm_str (am_cons (pm_v (pv 1)) (am_cons (pm_v (pv 0)) am_nil)))))))
theorem st_p_picked (T : Tx K mg) {n : Nat} {r_p_built : F} (G_p_built : FnOk P w K mg base CX0 (1 + n) T.a_p_built T.d_p_built ["tree", "then", "steps"] (spG K T.C 3 r_p_built)) : FnOk P w K mg base CX0 (1 + n + 1) T.a_p_picked T.d_p_picked ["parts", "then", "steps"] (spG K T.C 3 fun ds s => (runG 7 (b_p_picked r_p_built) ds s).nox) :=
  fn_G (C := T.C) (N := ["parts", "then", "steps", "entries", "part", "here", "entry"]) (ps := ["parts", "then", "steps"]) (k := 1 + n) (m := b_p_picked r_p_built) T.F_p_picked sc_p_picked fun cdv A outer s H E hr => by
    have hu := hr.units
    exact (ss_cons (sm_setLc (x := "part") (j := 3) rfl rfl (sw_true rfl rfl rfl (by decide +kernel)) rfl (sc_p_picked).nd (im_seq (pm_v (pv 0))) (blkOk_by (N := ["parts", "then", "steps", "entries", "part", "here", "entry"]) (sc := defScope s_p_picked) (by decide +kernel)) (fun _ _ _ _ _ => pg_name (i := 4) (sc_p_picked).nd rfl (Or.inl rfl)) (fun _ _ _ _ _ => sts_nil) (fun _ _ _ _ _ => (pm_callG (C := T.C) G_p_built hr (by rfl) T.m_p_built T.F_p_built.kp T.b_p_built pass0 (fun _ _ _ z => z.elim) (am_cons (pm_v (pv 4)) (am_cons (pm_v (pv 1)) (am_cons (pm_v (pv 2)) am_nil))) (alen_cons (alen_cons (alen_cons alen_nil))))))
    (ss_cons (sm_set (i := 5) (sc_p_picked).nd rfl (.inl rfl) (pm_ix (pm_v (pv 3)) (pm_neg pm_int)))
    (ss_cons (sm_for PassesOwn.never rfl (im_rev (by rfl) T.n_reversed (pm_sl (pm_v (pv 3)) om_n (om_s (pm_neg pm_int)))) (pg_name (i := 6) (sc_p_picked).nd rfl (.inl rfl)) (ss_cons (sm_ex (pm_app (pm_v (pv 2)) (pm_tup (am_cons pm_str (am_cons (pm_v (pv 6)) (am_cons (pm_v (pv 5)) am_nil))))))
    (ss_one (sm_set (i := 5) (sc_p_picked).nd rfl (.inl rfl) (pm_op sem_sub (pm_b1 sem_len (by rfl) T.n_len (by decide +kernel) (pm_v (pv 2))) pm_int)))))
    (ss_one (sm_ret (pm_v (pv 5)))))))
theorem st_p_built (T : Tx K mg) {n : Nat} {r_p_picked : F} {r_p_built : F} (G_p_picked : FnOk P w K mg base CX0 (1 + n) T.a_p_picked T.d_p_picked ["parts", "then", "steps"] (spG K T.C 3 r_p_picked)) (G_p_built : FnOk P w K mg base CX0 (1 + n) T.a_p_built T.d_p_built ["tree", "then", "steps"] (spG K T.C 3 r_p_built)) : FnOk P w K mg base CX0 (1 + n + 1) T.a_p_built T.d_p_built ["tree", "then", "steps"] (spG K T.C 3 fun ds s => (runG 5 (b_p_built r_p_picked r_p_built) ds s).nox) :=
  fn_G (C := T.C) (N := ["tree", "then", "steps", "part", "here"]) (ps := ["tree", "then", "steps"]) (k := 1 + n) (m := b_p_built r_p_picked r_p_built) T.F_p_built sc_p_built fun cdv A outer s H E hr => by
    have hu := hr.units
    exact (ss_cons (sm_if (tm_cmp (sem_eq hu) (pm_ix (pm_v (pv 0)) pm_int) pm_str (nomark _)) (ss_cons (sm_ex (pm_app (pm_v (pv 2)) (pm_tup (am_cons pm_str (am_cons (pm_ix (pm_v (pv 0)) pm_int) (am_cons (pm_ix (pm_v (pv 0)) pm_int) (am_cons (pm_v (pv 1)) am_nil)))))))
    (ss_one (sm_ret (pm_op sem_sub (pm_b1 sem_len (by rfl) T.n_len (by decide +kernel) (pm_v (pv 2))) pm_int)))) ss_nil)
    (ss_cons (sm_if (tm_cmp (sem_eq hu) (pm_ix (pm_v (pv 0)) pm_int) pm_str (nomark _)) (ss_cons (sm_for PassesOwn.never rfl (im_rev (by rfl) T.n_reversed (pm_ix (pm_v (pv 0)) pm_int)) (pg_name (i := 3) (sc_p_built).nd rfl (.inl rfl)) (ss_one (sm_set (i := 1) (sc_p_built).nd rfl (.inl rfl) (pm_callG (C := T.C) G_p_built hr (by rfl) T.m_p_built T.F_p_built.kp T.b_p_built pass0 (fun _ _ _ z => z.elim) (am_cons (pm_v (pv 3)) (am_cons (pm_v (pv 1)) (am_cons (pm_v (pv 2)) am_nil))) (alen_cons (alen_cons (alen_cons alen_nil)))))))
    (ss_one (sm_ret (pm_v (pv 1))))) ss_nil)
    (ss_cons (sm_if (tm_cmp (sem_eq hu) (pm_ix (pm_v (pv 0)) pm_int) pm_str (nomark _)) (ss_one (sm_ret (pm_callG (C := T.C) G_p_picked hr (by rfl) T.m_p_picked T.F_p_picked.kp T.b_p_picked pass0 (fun _ _ _ z => z.elim) (am_cons (pm_ix (pm_v (pv 0)) pm_int) (am_cons (pm_v (pv 1)) (am_cons (pm_v (pv 2)) am_nil))) (alen_cons (alen_cons (alen_cons alen_nil)))))) ss_nil)
    (ss_cons (sm_set (i := 4) (sc_p_built).nd rfl (.inl rfl) (pm_b1 sem_len (by rfl) T.n_len (by decide +kernel) (pm_v (pv 2))))
    (ss_cons (sm_ex (pm_app (pm_v (pv 2)) pm_non))
    (ss_cons (sm_if (tm_cmp (sem_eq hu) (pm_ix (pm_v (pv 0)) pm_int) pm_str (nomark _)) (ss_one (sm_put hu (pm_v (pv 2)) (pm_v (pv 4)) (pm_call (C := T.C) (ok_p_parted T) (hr.mono (by omega)) (by rfl) T.m_p_parted T.F_p_parted.kp T.b_p_parted pass0 (fun _ _ _ z => z.elim) (am_cons (pm_callG (C := T.C) G_p_built hr (by rfl) T.m_p_built T.F_p_built.kp T.b_p_built pass0 (fun _ _ _ z => z.elim) (am_cons (pm_ix (pm_v (pv 0)) pm_int) (am_cons (pm_v (pv 4)) (am_cons (pm_v (pv 2)) am_nil))) (alen_cons (alen_cons (alen_cons alen_nil)))) (am_cons (pm_v (pv 1)) (am_cons (pm_ix (pm_v (pv 0)) pm_int) am_nil))) (alen_cons (alen_cons (alen_cons alen_nil)))))) (ss_one (sm_put hu (pm_v (pv 2)) (pm_v (pv 4)) (pm_call (C := T.C) (ok_p_parted T) (hr.mono (by omega)) (by rfl) T.m_p_parted T.F_p_parted.kp T.b_p_parted pass0 (fun _ _ _ z => z.elim) (am_cons (pm_callG (C := T.C) G_p_built hr (by rfl) T.m_p_built T.F_p_built.kp T.b_p_built pass0 (fun _ _ _ z => z.elim) (am_cons (pm_ix (pm_v (pv 0)) pm_int) (am_cons (pm_v (pv 1)) (am_cons (pm_v (pv 2)) am_nil))) (alen_cons (alen_cons (alen_cons alen_nil)))) (am_cons (pm_v (pv 1)) (am_cons (pm_ix (pm_v (pv 0)) pm_int) am_nil))) (alen_cons (alen_cons (alen_cons alen_nil)))))))
    (ss_one (sm_ret (pm_v (pv 4))))))))))
theorem all_p_picked (T : Tx K mg) (n : Nat) : FnOk P w K mg base CX0 (1 + n) T.a_p_picked T.d_p_picked ["parts", "then", "steps"] (spG K T.C 3 (f_p_picked n)) ∧ FnOk P w K mg base CX0 (1 + n) T.a_p_built T.d_p_built ["tree", "then", "steps"] (spG K T.C 3 (f_p_built n)) := by
  induction n with
  | zero => exact ⟨fn_noneG (C := T.C) (φ := f_p_picked 0) (fun _ _ => by rw [f_p_picked]), fn_noneG (C := T.C) (φ := f_p_built 0) (fun _ _ => by rw [f_p_built])⟩
  | succ n ih => exact ⟨by rw [f_p_picked]; exact st_p_picked T ih.2, by rw [f_p_built]; exact st_p_built T ih.1 ih.2⟩
theorem ok_p_picked (T : Tx K mg) (n : Nat) : FnOk P w K mg base CX0 (1 + n) T.a_p_picked T.d_p_picked ["parts", "then", "steps"] (spG K T.C 3 (f_p_picked n)) := (all_p_picked T n).1
theorem ok_p_built (T : Tx K mg) (n : Nat) : FnOk P w K mg base CX0 (1 + n) T.a_p_built T.d_p_built ["tree", "then", "steps"] (spG K T.C 3 (f_p_built n)) := (all_p_picked T n).2
theorem ok_p_net_of (T : Tx K mg) : FnOk P w K mg base CX0 202 T.a_p_net_of T.d_p_net_of ["tree"] (spP K T.C 1 f_p_net_of) :=
  fn_P (C := T.C) (N := ["tree", "steps", "start"]) (ps := ["tree"]) (k := 201) (m := b_p_net_of) T.F_p_net_of sc_p_net_of fun cdv A outer s H E hr => by
    have hu := hr.units
    exact (ss_cons (sm_ownL (i := 1) (sc_p_net_of).nd rfl (.inl rfl) (am_cons (pm_tup (am_cons pm_str am_nil)) am_nil))
    (ss_cons (sm_set (i := 2) (sc_p_net_of).nd rfl (.inl rfl) (pm_callG (C := T.C) (ok_p_built T 200) (hr.mono (by decide)) (by rfl) T.m_p_built T.F_p_built.kp T.b_p_built pass0 (fun _ _ _ z => z.elim) (am_cons (pm_v (pv 0)) (am_cons pm_int (am_cons (pm_v (pv 1)) am_nil))) (alen_cons (alen_cons (alen_cons alen_nil)))))
    (ss_one (sm_ret (pm_tup (am_cons (pm_v (pv 2)) (am_cons (pm_v (pv 1)) am_nil)))))))
theorem ok_p_led_in (T : Tx K mg) : FnOk P w K mg base CX0 1 T.a_p_led_in T.d_p_led_in ["net", "row", "seen", "step", "begin"] (spG K T.C 5 f_p_led_in) :=
  fn_G (C := T.C) (N := ["net", "row", "seen", "step", "begin", "waiting", "here", "kind"]) (ps := ["net", "row", "seen", "step", "begin"]) (k := 0) (m := b_p_led_in) T.F_p_led_in sc_p_led_in fun cdv A outer s H E hr => by
    have hu := hr.units
    exact (ss_cons (sm_ownL (i := 5) (sc_p_led_in).nd rfl (.inl rfl) (am_cons (pm_v (pv 3)) am_nil))
    (ss_cons (sm_while PassesOwn.never (tm_truth (pm_v (pv 5))) (ss_cons (sm_set (i := 6) (sc_p_led_in).nd rfl (.inl rfl) (pm_pop (pm_v (pv 5))))
    (ss_cons (sm_if (tm_cmp (sem_in hu) (pm_v (pv 6)) (pm_v (pv 2)) (by rfl)) (ss_one sm_ct) ss_nil)
    (ss_cons (sm_put hu (pm_v (pv 2)) (pm_v (pv 6)) pm_bl)
    (ss_cons (sm_ex (pm_app (pm_v (pv 1)) (pm_tup (am_cons (pm_v (pv 6)) (am_cons (pm_v (pv 4)) am_nil)))))
    (ss_cons (sm_set (i := 7) (sc_p_led_in).nd rfl (.inl rfl) (pm_ix (pm_ix (pm_v (pv 0)) pm_int) (pm_v (pv 6))))
    (ss_cons (sm_if (tm_cmp (sem_eq hu) (pm_ix (pm_v (pv 7)) pm_int) pm_str (nomark _)) (ss_one (sm_ret pm_bl)) ss_nil)
    (ss_one (sm_if (tm_cmp (sem_eq hu) (pm_ix (pm_v (pv 7)) pm_int) pm_str (nomark _)) (ss_cons (sm_ex (pm_app (pm_v (pv 5)) (pm_ix (pm_v (pv 7)) pm_int)))
    (ss_one (sm_ex (pm_app (pm_v (pv 5)) (pm_ix (pm_v (pv 7)) pm_int))))) ss_nil)))))))))
    (ss_one (sm_ret pm_bl))))
theorem ok_p_row_behind (T : Tx K mg) : FnOk P w K mg base CX0 2 T.a_p_row_behind T.d_p_row_behind ["net", "before", "sign", "place", "is_open"] (spP K T.C 5 f_p_row_behind) :=
  fn_P (C := T.C) (N := ["net", "before", "sign", "place", "is_open", "row", "seen", "pair", "step"]) (ps := ["net", "before", "sign", "place", "is_open"]) (k := 1) (m := b_p_row_behind) T.F_p_row_behind sc_p_row_behind fun cdv A outer s H E hr => by
    have hu := hr.units
    exact (ss_cons (sm_ownL (i := 5) (sc_p_row_behind).nd rfl (.inl rfl) am_nil)
    (ss_cons (sm_set (i := 6) (sc_p_row_behind).nd rfl (.inl rfl) pm_dnewI)
    (ss_cons (sm_for PassesOwn.never rfl (im_seq (pm_v (pv 1))) (pg_name (i := 7) (sc_p_row_behind).nd rfl (.inl rfl)) (ss_cons (sm_set (i := 8) (sc_p_row_behind).nd rfl (.inl rfl) (pm_ix (pm_ix (pm_v (pv 0)) pm_int) (pm_ix (pm_v (pv 7)) pm_int)))
    (ss_one (sm_if (PW.pt (wm_and (tm_cmp (sem_eq hu) (pm_ix (pm_v (pv 8)) pm_int) pm_str (nomark _)) (wm_and1 (tm_truth (pm_call (C := T.C) (ok_p_takes T) (hr.mono (by decide)) (by rfl) T.m_p_takes T.F_p_takes.kp T.b_p_takes pass0 (fun _ _ _ z => z.elim) (am_cons (pm_ix (pm_v (pv 8)) pm_int) (am_cons (pm_ix (pm_v (pv 8)) pm_int) (am_cons (pm_v (pv 2)) am_nil))) (alen_cons (alen_cons (alen_cons alen_nil)))))))) (ss_one (sm_if (tm_truth (pm_callG (C := T.C) (ok_p_led_in T) (hr.mono (by decide)) (by rfl) T.m_p_led_in T.F_p_led_in.kp T.b_p_led_in pass0 (fun _ _ _ z => z.elim) (am_cons (pm_v (pv 0)) (am_cons (pm_v (pv 5)) (am_cons (pm_v (pv 6)) (am_cons (pm_ix (pm_v (pv 8)) pm_int) (am_cons (pm_ix (pm_v (pv 7)) pm_int) am_nil))))) (alen_cons (alen_cons (alen_cons (alen_cons (alen_cons alen_nil))))))) (ss_one (sm_ret (pm_tup (am_cons (pm_v (pv 5)) (am_cons (pm_ix (pm_v (pv 7)) pm_int) am_nil))))) ss_nil)) ss_nil))))
    (ss_cons (sm_if (PW.pt (wm_and (tm_truth (pm_v (pv 4))) (wm_and1 (tm_truth (pm_callG (C := T.C) (ok_p_led_in T) (hr.mono (by decide)) (by rfl) T.m_p_led_in T.F_p_led_in.kp T.b_p_led_in pass0 (fun _ _ _ z => z.elim) (am_cons (pm_v (pv 0)) (am_cons (pm_v (pv 5)) (am_cons (pm_v (pv 6)) (am_cons (pm_ix (pm_v (pv 0)) pm_int) (am_cons (pm_v (pv 3)) am_nil))))) (alen_cons (alen_cons (alen_cons (alen_cons (alen_cons alen_nil)))))))))) (ss_one (sm_ret (pm_tup (am_cons (pm_v (pv 5)) (am_cons (pm_v (pv 3)) am_nil))))) ss_nil)
    (ss_one (sm_ret (pm_tup (am_cons (pm_v (pv 5)) (am_cons pm_non am_nil)))))))))
theorem ok_p_sweep (T : Tx K mg) : FnOk P w K mg base CX0 3 T.a_p_sweep T.d_p_sweep ["net", "text"] (spP K T.C 2 f_p_sweep) :=
  fn_P (C := T.C) (N := ["net", "text", "found", "kept", "before", "place", "sign", "told"]) (ps := ["net", "text"]) (k := 2) (m := b_p_sweep) T.F_p_sweep sc_p_sweep fun cdv A outer s H E hr => by
    have hu := hr.units
    exact (ss_cons (sm_set (i := 2) (sc_p_sweep).nd rfl (.inl rfl) pm_non)
    (ss_cons (sm_ownL (i := 3) (sc_p_sweep).nd rfl (.inl rfl) am_nil)
    (ss_cons (sm_set (i := 4) (sc_p_sweep).nd rfl (.inl rfl) (pm_lst am_nil))
    (ss_cons (sm_for PassesOwn.never rfl (im_r1 (by rfl) T.n_range (pm_op sem_add (pm_b1 sem_len (by rfl) T.n_len (by decide +kernel) (pm_v (pv 1))) pm_int)) (pg_name (i := 5) (sc_p_sweep).nd rfl (.inl rfl)) (ss_cons (sm_set (i := 6) (sc_p_sweep).nd rfl (.inl rfl) (pm_if (tm_cmp sem_gt (pm_v (pv 5)) pm_int (nomark _)) (pm_ix (pm_v (pv 1)) (pm_op sem_sub (pm_v (pv 5)) pm_int)) pm_str))
    (ss_cons (sm_set (i := 7) (sc_p_sweep).nd rfl (.inl rfl) (pm_call (C := T.C) (ok_p_row_behind T) (hr.mono (by decide)) (by rfl) T.m_p_row_behind T.F_p_row_behind.kp T.b_p_row_behind pass0 (fun _ _ _ z => z.elim) (am_cons (pm_v (pv 0)) (am_cons (pm_v (pv 4)) (am_cons (pm_v (pv 6)) (am_cons (pm_v (pv 5)) (am_cons (pm_cmp sem_is (pm_v (pv 2)) pm_non (nomark _)) am_nil))))) (alen_cons (alen_cons (alen_cons (alen_cons (alen_cons alen_nil)))))))
    (ss_cons (sm_set (i := 4) (sc_p_sweep).nd rfl (.inl rfl) (pm_ix (pm_v (pv 7)) pm_int))
    (ss_cons (sm_ex (pm_app (pm_v (pv 3)) (pm_v (pv 4))))
    (ss_one (sm_if (tm_cmp sem_isnt (pm_ix (pm_v (pv 7)) pm_int) pm_non (nomark _)) (ss_one (sm_set (i := 2) (sc_p_sweep).nd rfl (.inl rfl) (pm_tup (am_cons (pm_ix (pm_v (pv 7)) pm_int) (am_cons (pm_op sem_sub (pm_v (pv 5)) (pm_ix (pm_v (pv 7)) pm_int)) am_nil))))) ss_nil)))))))
    (ss_one (sm_ret (pm_tup (am_cons (pm_v (pv 3)) (am_cons (pm_v (pv 2)) am_nil)))))))))
theorem ok_p_swept (T : Tx K mg) : FnOk P w K mg base CX0 4 T.a_p_swept T.d_p_swept ["net", "text"] (spP K T.C 2 f_p_swept) :=
  fn_P (C := T.C) (N := ["net", "text"]) (ps := ["net", "text"]) (k := 3) (m := b_p_swept) T.F_p_swept sc_p_swept fun cdv A outer s H E hr => by
    have hu := hr.units
    exact (ss_one (sm_ret (pm_ix (pm_call (C := T.C) (ok_p_sweep T) (hr.mono (by decide)) (by rfl) T.m_p_sweep T.F_p_sweep.kp T.b_p_sweep pass0 (fun _ _ _ z => z.elim) (am_cons (pm_v (pv 0)) (am_cons (pm_v (pv 1)) am_nil)) (alen_cons (alen_cons alen_nil))) pm_int)))
theorem ok_p_first (T : Tx K mg) : FnOk P w K mg base (L2N.CX P w) 203 T.a_p_first T.d_p_first ["pattern", "text"] (spP K T.C 2 f_p_first) :=
  fn_PN (C := T.C) (N := ["pattern", "text"]) (ps := ["pattern", "text"]) (k := 202) (m := b_p_first) T.F_p_first sc_p_first fun cdv A outer s H E hr => by
    have hu := hr.units
    exact (ss_one (sm_ret (pm_call (C := T.C) (EK := E) (ok_p_swept T) (hr.mono (by decide)) (by rfl) T.m_p_swept T.F_p_swept.kp T.b_p_swept pass0 (fun _ _ _ h => h) (am_cons (pm_call (C := T.C) (EK := E) (ok_p_net_of T) (hr.mono (by decide)) (by rfl) T.m_p_net_of T.F_p_net_of.kp T.b_p_net_of pass0 (fun _ _ _ h => h) (am_cons (pm_call (C := T.C) (EK := E) (ok_p_read T) (hr.mono (by decide)) (by rfl) T.m_p_read T.F_p_read.kp T.b_p_read (L2N.passes_call (W := fun cls d _ H => E cls d H) (E := E) (L2N.takes_of rfl rfl rfl rfl) (fun _ _ _ _ h => h)) (fun _ _ _ h => h) (am_cons (pm_v (pv 0)) am_nil) (alen_cons alen_nil)) am_nil) (alen_cons alen_nil)) (am_cons (pm_v (pv 1)) am_nil)) (alen_cons (alen_cons alen_nil)))))
theorem ok_p_all_found (T : Tx K mg) : FnOk P w K mg base (L2N.CX P w) 203 T.a_p_all_found T.d_p_all_found ["pattern", "text"] (spP K T.C 2 f_p_all_found) :=
  fn_PN (C := T.C) (N := ["pattern", "text", "net", "found", "at", "match"]) (ps := ["pattern", "text"]) (k := 202) (m := b_p_all_found) T.F_p_all_found sc_p_all_found fun cdv A outer s H E hr => by
    have hu := hr.units
    exact (ss_cons (sm_set (i := 2) (sc_p_all_found).nd rfl (.inl rfl) (pm_call (C := T.C) (EK := E) (ok_p_net_of T) (hr.mono (by decide)) (by rfl) T.m_p_net_of T.F_p_net_of.kp T.b_p_net_of pass0 (fun _ _ _ h => h) (am_cons (pm_call (C := T.C) (EK := E) (ok_p_read T) (hr.mono (by decide)) (by rfl) T.m_p_read T.F_p_read.kp T.b_p_read (L2N.passes_call (W := fun cls d _ H => E cls d H) (E := E) (L2N.takes_of rfl rfl rfl rfl) (fun _ _ _ _ h => h)) (fun _ _ _ h => h) (am_cons (pm_v (pv 0)) am_nil) (alen_cons alen_nil)) am_nil) (alen_cons alen_nil)))
    (ss_cons (sm_ownL (i := 3) (sc_p_all_found).nd rfl (.inl rfl) am_nil)
    (ss_cons (sm_set (i := 4) (sc_p_all_found).nd rfl (.inl rfl) pm_int)
    (ss_cons (sm_while (L2.passes_of rfl) (tm_cmp sem_le (pm_v (pv 4)) (pm_b1 sem_len (by rfl) T.n_len (by decide +kernel) (pm_v (pv 1))) (nomark _)) (ss_cons (sm_set (i := 5) (sc_p_all_found).nd rfl (.inl rfl) (pm_call (C := T.C) (EK := E) (ok_p_swept T) (hr.mono (by decide)) (by rfl) T.m_p_swept T.F_p_swept.kp T.b_p_swept pass0 (fun _ _ _ h => h) (am_cons (pm_v (pv 2)) (am_cons (pm_sl (pm_v (pv 1)) (om_s (pm_v (pv 4))) om_n) am_nil)) (alen_cons (alen_cons alen_nil))))
    (ss_cons (sm_if (tm_cmp sem_is (pm_v (pv 5)) pm_non (nomark _)) (ss_one (sm_ret (pm_v (pv 3)))) ss_nil)
    (ss_cons (sm_ex (pm_app (pm_v (pv 3)) (pm_tup (am_cons (pm_op sem_add (pm_v (pv 4)) (pm_ix (pm_v (pv 5)) pm_int)) (am_cons (pm_ix (pm_v (pv 5)) pm_int) am_nil)))))
    (ss_one (sm_set (i := 4) (sc_p_all_found).nd rfl (.inl rfl) (pm_op sem_add (pm_op sem_add (pm_v (pv 4)) (pm_ix (pm_v (pv 5)) pm_int)) (pm_b2 max_of (call_max2 rfl) (by rfl) T.n_max (by decide +kernel) pm_int (pm_ix (pm_v (pv 5)) pm_int)))))))))
    (ss_one (sm_ret (pm_v (pv 3))))))))
theorem ok_l_cell_at (T : Tx K mg) : FnOk P w K mg base CX0 1 T.a_l_cell_at T.d_l_cell_at ["_law_script", "_law_k"] (spP K T.C 2 f_l_cell_at) :=
  fn_P (C := T.C) (N := ["_law_script", "_law_k"]) (ps := ["_law_script", "_law_k"]) (k := 0) (m := b_l_cell_at) T.F_l_cell_at sc_l_cell_at fun cdv A outer s H E hr => by
    have hu := hr.units
    exact (ss_cons (sm_if (tm_cmp sem_lt (pm_v (pv 1)) (pm_b1 sem_len (by rfl) T.n_len (by decide +kernel) (pm_v (pv 0))) (nomark _)) (ss_one (sm_ret (pm_ix (pm_v (pv 0)) (pm_v (pv 1))))) ss_nil)
    (ss_one (sm_ret pm_int)))
theorem ok_l_sign_by (T : Tx K mg) : FnOk P w K mg base CX0 1 T.a_l_sign_by T.d_l_sign_by ["_law_cell"] (spP K T.C 1 f_l_sign_by) :=
  fn_P (C := T.C) (N := ["_law_cell", "_law_some"]) (ps := ["_law_cell"]) (k := 0) (m := b_l_sign_by) T.F_l_sign_by sc_l_sign_by fun cdv A outer s H E hr => by
    have hu := hr.units
    exact (ss_cons (sm_set (i := 1) (sc_l_sign_by).nd rfl (.inl rfl) pm_str)
    (ss_cons (sm_set (i := 1) (sc_l_sign_by).nd rfl (.inl rfl) (pm_op sem_add (pm_v (pv 1)) pm_str))
    (ss_one (sm_ret (pm_ix (pm_v (pv 1)) (pm_op sem_mod (pm_v (pv 0)) pm_int))))))
theorem ok_l_three_by (T : Tx K mg) : FnOk P w K mg base CX0 2 T.a_l_three_by T.d_l_three_by ["_law_cell"] (spP K T.C 1 f_l_three_by) :=
  fn_P (C := T.C) (N := ["_law_cell"]) (ps := ["_law_cell"]) (k := 1) (m := b_l_three_by) T.F_l_three_by sc_l_three_by fun cdv A outer s H E hr => by
    have hu := hr.units
    exact (ss_one (sm_ret (pm_op sem_add (pm_op sem_add (pm_call (C := T.C) (ok_l_sign_by T) (hr.mono (by decide)) (by rfl) T.m_l_sign_by T.F_l_sign_by.kp T.b_l_sign_by pass0 (fun _ _ _ z => z.elim) (am_cons (pm_v (pv 0)) am_nil) (alen_cons alen_nil)) (pm_call (C := T.C) (ok_l_sign_by T) (hr.mono (by decide)) (by rfl) T.m_l_sign_by T.F_l_sign_by.kp T.b_l_sign_by pass0 (fun _ _ _ z => z.elim) (am_cons (pm_op sem_add (pm_v (pv 0)) pm_int) am_nil) (alen_cons alen_nil))) (pm_call (C := T.C) (ok_l_sign_by T) (hr.mono (by decide)) (by rfl) T.m_l_sign_by T.F_l_sign_by.kp T.b_l_sign_by pass0 (fun _ _ _ z => z.elim) (am_cons (pm_op sem_add (pm_v (pv 0)) pm_int) am_nil) (alen_cons alen_nil)))))
theorem ok_l_set_end (T : Tx K mg) : FnOk P w K mg base CX0 1 T.a_l_set_end T.d_l_set_end ["_law_pattern", "_law_at"] (spP K T.C 2 f_l_set_end) :=
  fn_P (C := T.C) (N := ["_law_pattern", "_law_at"]) (ps := ["_law_pattern", "_law_at"]) (k := 0) (m := b_l_set_end) T.F_l_set_end sc_l_set_end fun cdv A outer s H E hr => by
    have hu := hr.units
    exact (ss_cons (sm_while PassesOwn.never (PW.pt (wm_and (tm_cmp sem_lt (pm_v (pv 1)) (pm_b1 sem_len (by rfl) T.n_len (by decide +kernel) (pm_v (pv 0))) (nomark _)) (wm_and1 (tm_cmp (sem_ne hu) (pm_ix (pm_v (pv 0)) (pm_v (pv 1))) pm_str (nomark _))))) (ss_cons (sm_if (tm_cmp (sem_eq hu) (pm_ix (pm_v (pv 0)) (pm_v (pv 1))) pm_str (nomark _)) (ss_one (sm_set (i := 1) (sc_l_set_end).nd rfl (.inl rfl) (pm_op sem_add (pm_v (pv 1)) pm_int))) ss_nil)
    (ss_one (sm_set (i := 1) (sc_l_set_end).nd rfl (.inl rfl) (pm_op sem_add (pm_v (pv 1)) pm_int)))))
    (ss_one (sm_ret (pm_v (pv 1)))))
theorem ok_l_closed (T : Tx K mg) : FnOk P w K mg base CX0 1 T.a_l_closed T.d_l_closed ["_law_frames"] (spP K T.C 1 f_l_closed) :=
  fn_P (C := T.C) (N := ["_law_frames", "_law_last", "_law_above", "_law_is_bare"]) (ps := ["_law_frames"]) (k := 0) (m := b_l_closed) T.F_l_closed sc_l_closed fun cdv A outer s H E hr => by
    have hu := hr.units
    exact (ss_cons (sm_set (i := 1) (sc_l_closed).nd rfl (.inl rfl) (pm_ix (pm_v (pv 0)) (pm_neg pm_int)))
    (ss_cons (sm_set (i := 2) (sc_l_closed).nd rfl (.inl rfl) (pm_ix (pm_v (pv 0)) (pm_neg pm_int)))
    (ss_cons (sm_set (i := 3) (sc_l_closed).nd rfl (.inl rfl) (pm_or (pm_ix (pm_v (pv 1)) pm_int) (pm_one (pm_and (pm_ix (pm_v (pv 1)) pm_int) (pm_one (pm_ix (pm_v (pv 1)) pm_int))))))
    (ss_one (sm_ret (pm_op sem_add (pm_sl (pm_v (pv 0)) om_n (om_s (pm_neg pm_int))) (pm_lst (am_cons (pm_tup (am_cons (pm_ix (pm_v (pv 2)) pm_int) (am_cons (pm_and (pm_ix (pm_v (pv 2)) pm_int) (pm_one (pm_ix (pm_v (pv 2)) pm_int))) (am_cons (pm_v (pv 3)) am_nil)))) am_nil))))))))
theorem ok_l_grouped (T : Tx K mg) : FnOk P w K mg base CX0 2 T.a_l_grouped T.d_l_grouped ["_law_frames", "_law_sign"] (spP K T.C 2 f_l_grouped) :=
  fn_P (C := T.C) (N := ["_law_frames", "_law_sign", "_law_last"]) (ps := ["_law_frames", "_law_sign"]) (k := 1) (m := b_l_grouped) T.F_l_grouped sc_l_grouped fun cdv A outer s H E hr => by
    have hu := hr.units
    exact (ss_cons (sm_set (i := 2) (sc_l_grouped).nd rfl (.inl rfl) (pm_ix (pm_v (pv 0)) (pm_neg pm_int)))
    (ss_cons (sm_if (PW.pt (wm_and (tm_cmp (sem_eq hu) (pm_v (pv 1)) pm_str (nomark _)) (wm_and1 (tm_cmp sem_gt (pm_b1 sem_len (by rfl) T.n_len (by decide +kernel) (pm_v (pv 0))) pm_int (nomark _))))) (ss_one (sm_ret pm_str)) ss_nil)
    (ss_cons (sm_if (tm_cmp (sem_eq hu) (pm_v (pv 1)) pm_str (nomark _)) (ss_one (sm_ret (pm_op sem_add (pm_v (pv 0)) (pm_lst (am_cons (pm_tup (am_cons pm_bl (am_cons pm_bl (am_cons pm_bl am_nil)))) am_nil))))) ss_nil)
    (ss_cons (sm_if (tm_cmp (sem_eq hu) (pm_v (pv 1)) pm_str (nomark _)) (ss_one (sm_ret (pm_op sem_add (pm_sl (pm_v (pv 0)) om_n (om_s (pm_neg pm_int))) (pm_lst (am_cons (pm_tup (am_cons (pm_or (pm_ix (pm_v (pv 2)) pm_int) (pm_one (pm_and (pm_ix (pm_v (pv 2)) pm_int) (pm_one (pm_ix (pm_v (pv 2)) pm_int))))) (am_cons pm_bl (am_cons pm_bl am_nil)))) am_nil))))) ss_nil)
    (ss_cons (sm_if (tm_cmp (sem_eq hu) (pm_b1 sem_len (by rfl) T.n_len (by decide +kernel) (pm_v (pv 0))) pm_int (nomark _)) (ss_one (sm_ret pm_str)) ss_nil)
    (ss_one (sm_ret (pm_call (C := T.C) (ok_l_closed T) (hr.mono (by decide)) (by rfl) T.m_l_closed T.F_l_closed.kp T.b_l_closed pass0 (fun _ _ _ z => z.elim) (am_cons (pm_v (pv 0)) am_nil) (alen_cons alen_nil)))))))))
theorem ok_l_wrong_repeat (T : Tx K mg) : FnOk P w K mg base CX0 1 T.a_l_wrong_repeat T.d_l_wrong_repeat ["_law_sign", "_law_ready", "_law_last"] (spP K T.C 3 f_l_wrong_repeat) :=
  fn_P (C := T.C) (N := ["_law_sign", "_law_ready", "_law_last"]) (ps := ["_law_sign", "_law_ready", "_law_last"]) (k := 0) (m := b_l_wrong_repeat) T.F_l_wrong_repeat sc_l_wrong_repeat fun cdv A outer s H E hr => by
    have hu := hr.units
    exact (ss_cons (sm_if (tm_not (tm_truth (pm_v (pv 1)))) (ss_one (sm_ret pm_str)) ss_nil)
    (ss_cons (sm_if (PW.pt (wm_and (tm_cmp (sem_eq hu) (pm_v (pv 0)) pm_str (nomark _)) (wm_and1 (tm_truth (pm_ix (pm_v (pv 2)) pm_int))))) (ss_one (sm_ret pm_str)) ss_nil)
    (ss_one (sm_ret pm_str))))
theorem ok_l_due (T : Tx K mg) : FnOk P w K mg base CX0 3 T.a_l_due T.d_l_due ["_law_pattern"] (spP K T.C 1 f_l_due) :=
  fn_P (C := T.C) (N := ["_law_pattern", "_law_frames", "_law_ready", "_law_at", "_law_sign", "_law_last", "_law_wrong"]) (ps := ["_law_pattern"]) (k := 2) (m := b_l_due) T.F_l_due sc_l_due fun cdv A outer s H E hr => by
    have hu := hr.units
    exact (ss_cons (sm_set (i := 1) (sc_l_due).nd rfl (.inl rfl) (pm_lst (am_cons (pm_tup (am_cons pm_bl (am_cons pm_bl (am_cons pm_bl am_nil)))) am_nil)))
    (ss_cons (sm_set (i := 2) (sc_l_due).nd rfl (.inl rfl) pm_bl)
    (ss_cons (sm_set (i := 3) (sc_l_due).nd rfl (.inl rfl) pm_int)
    (ss_cons (sm_while PassesOwn.never (tm_cmp sem_lt (pm_v (pv 3)) (pm_b1 sem_len (by rfl) T.n_len (by decide +kernel) (pm_v (pv 0))) (nomark _)) (ss_cons (sm_set (i := 4) (sc_l_due).nd rfl (.inl rfl) (pm_ix (pm_v (pv 0)) (pm_v (pv 3))))
    (ss_cons (sm_set (i := 5) (sc_l_due).nd rfl (.inl rfl) (pm_ix (pm_v (pv 1)) (pm_neg pm_int)))
    (ss_cons (sm_if (tm_cmp (sem_in hu) (pm_v (pv 4)) pm_str (by rfl)) (ss_cons (sm_set (i := 1) (sc_l_due).nd rfl (.inl rfl) (pm_call (C := T.C) (ok_l_grouped T) (hr.mono (by decide)) (by rfl) T.m_l_grouped T.F_l_grouped.kp T.b_l_grouped pass0 (fun _ _ _ z => z.elim) (am_cons (pm_v (pv 1)) (am_cons (pm_v (pv 4)) am_nil)) (alen_cons (alen_cons alen_nil))))
    (ss_one (sm_if (tm_truth (pm_isi (by rfl) T.n_isinstance (by rfl) T.n_str (pm_v (pv 1)))) (ss_one (sm_ret (pm_v (pv 1)))) ss_nil))) (ss_one (sm_if (tm_cmp (sem_in hu) (pm_v (pv 4)) pm_str (by rfl)) (ss_cons (sm_set (i := 6) (sc_l_due).nd rfl (.inl rfl) (pm_call (C := T.C) (ok_l_wrong_repeat T) (hr.mono (by decide)) (by rfl) T.m_l_wrong_repeat T.F_l_wrong_repeat.kp T.b_l_wrong_repeat pass0 (fun _ _ _ z => z.elim) (am_cons (pm_v (pv 4)) (am_cons (pm_v (pv 2)) (am_cons (pm_v (pv 5)) am_nil))) (alen_cons (alen_cons (alen_cons alen_nil)))))
    (ss_cons (sm_if (tm_cmp (sem_ne hu) (pm_v (pv 6)) pm_str (nomark _)) (ss_one (sm_ret (pm_v (pv 6)))) ss_nil)
    (ss_cons (sm_set (i := 1) (sc_l_due).nd rfl (.inl rfl) (pm_op sem_add (pm_sl (pm_v (pv 1)) om_n (om_s (pm_neg pm_int))) (pm_lst (am_cons (pm_tup (am_cons (pm_ix (pm_v (pv 5)) pm_int) (am_cons (pm_ix (pm_v (pv 5)) pm_int) (am_cons pm_bl am_nil)))) am_nil))))
    (ss_one (sm_if (tm_cmp (sem_eq hu) (pm_sl (pm_v (pv 0)) (om_s (pm_op sem_add (pm_v (pv 3)) pm_int)) (om_s (pm_op sem_add (pm_v (pv 3)) pm_int))) pm_str (nomark _)) (ss_one (sm_set (i := 3) (sc_l_due).nd rfl (.inl rfl) (pm_op sem_add (pm_v (pv 3)) pm_int))) ss_nil))))) (ss_cons (sm_if (tm_cmp (sem_eq hu) (pm_v (pv 4)) pm_str (nomark _)) (ss_one (sm_ret pm_str)) ss_nil)
    (ss_cons (sm_if (tm_cmp (sem_eq hu) (pm_v (pv 4)) pm_str (nomark _)) (ss_one (sm_set (i := 3) (sc_l_due).nd rfl (.inl rfl) (pm_call (C := T.C) (ok_l_set_end T) (hr.mono (by decide)) (by rfl) T.m_l_set_end T.F_l_set_end.kp T.b_l_set_end pass0 (fun _ _ _ z => z.elim) (am_cons (pm_v (pv 0)) (am_cons (pm_op sem_add (pm_v (pv 3)) pm_int) am_nil)) (alen_cons (alen_cons alen_nil))))) ss_nil)
    (ss_cons (sm_if (tm_cmp (sem_eq hu) (pm_v (pv 4)) pm_str (nomark _)) (ss_one (sm_set (i := 3) (sc_l_due).nd rfl (.inl rfl) (pm_op sem_add (pm_v (pv 3)) pm_int))) ss_nil)
    (ss_cons (sm_if (tm_cmp sem_ge (pm_v (pv 3)) (pm_b1 sem_len (by rfl) T.n_len (by decide +kernel) (pm_v (pv 0))) (nomark _)) (ss_one (sm_ret pm_str)) ss_nil)
    (ss_one (sm_set (i := 1) (sc_l_due).nd rfl (.inl rfl) (pm_op sem_add (pm_sl (pm_v (pv 1)) om_n (om_s (pm_neg pm_int))) (pm_lst (am_cons (pm_tup (am_cons (pm_ix (pm_v (pv 5)) pm_int) (am_cons (pm_and (pm_ix (pm_v (pv 5)) pm_int) (pm_one (pm_ix (pm_v (pv 5)) pm_int))) (am_cons pm_bl am_nil)))) am_nil))))))))))))
    (ss_cons (sm_set (i := 2) (sc_l_due).nd rfl (.inl rfl) (pm_cmp (sem_nin hu) (pm_v (pv 4)) pm_str (by rfl)))
    (ss_one (sm_set (i := 3) (sc_l_due).nd rfl (.inl rfl) (pm_op sem_add (pm_v (pv 3)) pm_int))))))))
    (ss_one (sm_ret (pm_if (tm_cmp sem_gt (pm_b1 sem_len (by rfl) T.n_len (by decide +kernel) (pm_v (pv 1))) pm_int (nomark _)) pm_str pm_str)))))))
theorem ok_l_asked (T : Tx K mg) : FnOk P w K mg base (L2N.CX P w) 204 T.a_l_asked T.d_l_asked ["_law_pattern", "_law_way"] (spP K T.C 2 f_l_asked) :=
  fn_PN (C := T.C) (N := ["_law_pattern", "_law_way", "_law_found"]) (ps := ["_law_pattern", "_law_way"]) (k := 203) (m := b_l_asked) T.F_l_asked sc_l_asked fun cdv A outer s H E hr => by
    have hu := hr.units
    exact (ss_cons (sm_if (tm_cmp (sem_eq hu) (pm_v (pv 1)) pm_int (nomark _)) (ss_one (sm_ret (pm_isi (by rfl) T.n_isinstance (by rfl) T.n_tuple (pm_call (C := T.C) (EK := E) (ok_p_read T) (hr.mono (by decide)) (by rfl) T.m_p_read T.F_p_read.kp T.b_p_read (L2N.passes_call (W := fun cls d _ H => E cls d H) (E := E) (L2N.takes_of rfl rfl rfl rfl) (fun _ _ _ _ h => h)) (fun _ _ _ h => h) (am_cons (pm_v (pv 0)) am_nil) (alen_cons alen_nil))))) ss_nil)
    (ss_cons (sm_if (tm_cmp (sem_eq hu) (pm_v (pv 1)) pm_int (nomark _)) (ss_cons (sm_set (i := 2) (sc_l_asked).nd rfl (.inl rfl) (pm_call (C := T.C) (EK := E) (ok_p_first T) (hr.mono (by decide)) (by rfl) T.m_p_first T.F_p_first.kp T.b_p_first (L2N.passes_call (W := fun cls d _ H => E cls d H) (E := E) (L2N.takes_of rfl rfl rfl rfl) (fun _ _ _ _ h => h)) (fun _ _ _ h => h) (am_cons (pm_v (pv 0)) (am_cons pm_str am_nil)) (alen_cons (alen_cons alen_nil))))
    (ss_one (sm_ret (pm_or (pm_cmp sem_is (pm_v (pv 2)) pm_non (nomark _)) (pm_one (pm_isi (by rfl) T.n_isinstance (by rfl) T.n_tuple (pm_v (pv 2)))))))) ss_nil)
    (ss_one (sm_ret (pm_isi (by rfl) T.n_isinstance (by rfl) T.n_list (pm_call (C := T.C) (EK := E) (ok_p_all_found T) (hr.mono (by decide)) (by rfl) T.m_p_all_found T.F_p_all_found.kp T.b_p_all_found (L2N.passes_call (W := fun cls d _ H => E cls d H) (E := E) (L2N.takes_of rfl rfl rfl rfl) (fun _ _ _ _ h => h)) (fun _ _ _ h => h) (am_cons (pm_v (pv 0)) (am_cons pm_str am_nil)) (alen_cons (alen_cons alen_nil))))))))
theorem ok_l_refusal (T : Tx K mg) : FnOk P w K mg base CX0 205 T.a_l_refusal T.d_l_refusal ["_law_pattern", "_law_way"] (spP K T.C 2 f_l_refusal) :=
  fn_P (C := T.C) (N := ["_law_pattern", "_law_way"]) (ps := ["_law_pattern", "_law_way"]) (k := 204) (m := b_l_refusal) T.F_l_refusal sc_l_refusal fun cdv A outer s H E hr => by
    have hu := hr.units
    exact (ss_one (sm_tryR (C := T.C) rfl rfl T.exm (by decide) (fun W pn xe tk _ => (ss_one (sm_ret (pm_if (tm_truth (pm_call (C := T.C) (ok_l_asked T) (hr.mono (by decide)) (by rfl) T.m_l_asked T.F_l_asked.kp T.b_l_asked (passT tk) (fun _ _ _ h => h) (am_cons (pm_v (pv 0)) (am_cons (pm_v (pv 1)) am_nil)) (alen_cons (alen_cons alen_nil)))) pm_str pm_str)))) (.cons ⟨by rfl, by decide, .inl T.g_Unclosed⟩ (fun _ _ _ _ _ _ _ => pss_one (ps_ret (pe_strz (by decide +kernel)))) (.cons ⟨by rfl, by decide, .inl T.g_Unopened⟩ (fun _ _ _ _ _ _ _ => pss_one (ps_ret (pe_strz (by decide +kernel)))) (.cons ⟨by rfl, by decide, .inl T.g_NothingAhead⟩ (fun _ _ _ _ _ _ _ => pss_one (ps_ret (pe_strz (by decide +kernel)))) (.cons ⟨by rfl, by decide, .inl T.g_EmptyRound⟩ (fun _ _ _ _ _ _ _ => pss_one (ps_ret (pe_strz (by decide +kernel)))) (.cons ⟨by rfl, by decide, .inl T.g_TooDeep⟩ (fun _ _ _ _ _ _ _ => pss_one (ps_ret (pe_strz (by decide +kernel)))) .nil)))))))
theorem ok_l_one_class (T : Tx K mg) : FnOk P w K mg base CX0 203 T.a_l_one_class T.d_l_one_class ["_law_pattern"] (spP K T.C 1 f_l_one_class) :=
  fn_P (C := T.C) (N := ["_law_pattern", "e", "_law_told", "_law_one"]) (ps := ["_law_pattern"]) (k := 202) (m := b_l_one_class) T.F_l_one_class sc_l_one_class fun cdv A outer s H E hr => by
    have hu := hr.units
    exact (ss_cons (sm_try1 (C := T.C) (i := 1) rfl rfl (sc_l_one_class).nd rfl rfl ⟨by rfl, by decide, .inl T.g_PatternError⟩ T.exP (one_ts T.C) (one_hts T) (fun W pn xe tk _ => (ss_one (sm_ex (pm_call (C := T.C) (ok_p_read T) (hr.mono (by decide)) (by rfl) T.m_p_read T.F_p_read.kp T.b_p_read (passT tk) (fun _ _ _ h => h) (am_cons (pm_v (pv 0)) am_nil) (alen_cons alen_nil))))) (fun a oe cls d pn hz hf => ⟨fun pins s σ H D I h => by
      obtain ⟨c, hc, rfl, rfl, hl, h1, q⟩ := h
      exact (pss_cons (ps_set (i := 2) sc_l_one_class.nd rfl (Or.inl rfl) (pe_lst (pa_cons (one_is (X := _) T hc (j := 0) (by decide) hz.zc hf (pv 1) (by rfl) (by rfl) T.g_Unclosed) (pa_cons (one_is (X := _) T hc (j := 1) (by decide) hz.zc hf (pv 1) (by rfl) (by rfl) T.g_Unopened) (pa_cons (one_is (X := _) T hc (j := 2) (by decide) hz.zc hf (pv 1) (by rfl) (by rfl) T.g_NothingAhead) pa_nil)))))
        (pss_cons (ps_set (i := 2) sc_l_one_class.nd rfl (Or.inl rfl) (pe_op op_cat (pv 2) (pe_lst (pa_cons (one_is (X := _) T hc (j := 3) (by decide) hz.zc hf (pv 1) (by rfl) (by rfl) T.g_EmptyRound) (pa_cons (one_is (X := _) T hc (j := 4) (by decide) hz.zc hf (pv 1) (by rfl) (by rfl) T.g_TooDeep) pa_nil)))))
        (pss_one (ps_ret (pe_and (one_ve (X := _) T hc hz.zc hf (pv 1) (by rfl) (by rfl)) (pe_one (pe_cmpR op_eq (pe_callB call_len_seq (by rfl) T.n_len (by decide +kernel) (pa_cons (pe_keepH (x := "_law_one") (i := 3) (k := 2) (one_hot hz hf) sc_l_one_class.nd (pv 2) (blkOk_by (N := ["_law_pattern", "e", "_law_told", "_law_one"]) (sc := defScope s_l_one_class) (by decide +kernel)) (fun _ _ _ _ _ => pg_name (i := 3) sc_l_one_class.nd rfl (Or.inl rfl)) (fun _ _ _ _ _ => pts_one (pt_val (pv 3))) (fun _ _ _ _ _ => pv 3)) pa_nil)) pe_int (nomark _)))))))).run pins s σ H D I (one_law hc hl h1 q)⟩))
    (ss_one (sm_ret pm_bl)))
theorem ok_l_piece_by (T : Tx K mg) : FnOk P w K mg base CX0 2 T.a_l_piece_by T.d_l_piece_by ["_law_cell", "_law_three"] (spP K T.C 2 f_l_piece_by) :=
  fn_P (C := T.C) (N := ["_law_cell", "_law_three", "_law_some", "_law_way", "_law_rest"]) (ps := ["_law_cell", "_law_three"]) (k := 1) (m := b_l_piece_by) T.F_l_piece_by sc_l_piece_by fun cdv A outer s H E hr => by
    have hu := hr.units
    exact (ss_cons (sm_set (i := 2) (sc_l_piece_by).nd rfl (.inl rfl) (pm_lst (am_cons pm_str (am_cons pm_str (am_cons pm_str (am_cons pm_str (am_cons pm_str (am_cons pm_str (am_cons pm_str (am_cons pm_str (am_cons pm_str am_nil)))))))))))
    (ss_cons (sm_set (i := 3) (sc_l_piece_by).nd rfl (.inl rfl) (pm_op sem_mod (pm_v (pv 0)) pm_int))
    (ss_cons (sm_set (i := 4) (sc_l_piece_by).nd rfl (.inl rfl) (pm_op sem_div (pm_v (pv 0)) pm_int))
    (ss_cons (sm_if (tm_cmp (sem_eq hu) (pm_v (pv 3)) pm_int (nomark _)) (ss_one (sm_ret (pm_call (C := T.C) (ok_l_sign_by T) (hr.mono (by decide)) (by rfl) T.m_l_sign_by T.F_l_sign_by.kp T.b_l_sign_by pass0 (fun _ _ _ z => z.elim) (am_cons (pm_v (pv 4)) am_nil) (alen_cons alen_nil)))) ss_nil)
    (ss_cons (sm_if (tm_cmp (sem_eq hu) (pm_v (pv 3)) pm_int (nomark _)) (ss_one (sm_ret (pm_ix (pm_v (pv 1)) (pm_op sem_mod (pm_v (pv 4)) pm_int)))) ss_nil)
    (ss_cons (sm_if (tm_cmp (sem_eq hu) (pm_v (pv 3)) pm_int (nomark _)) (ss_one (sm_ret (pm_ix pm_str (pm_op sem_mod (pm_v (pv 4)) pm_int)))) ss_nil)
    (ss_cons (sm_if (tm_cmp (sem_eq hu) (pm_v (pv 3)) pm_int (nomark _)) (ss_one (sm_ret (pm_ix (pm_v (pv 2)) (pm_op sem_mod (pm_v (pv 4)) pm_int)))) ss_nil)
    (ss_one (sm_ret (pm_ix pm_str (pm_op sem_mod (pm_v (pv 4)) pm_int)))))))))))
theorem ok_l_law (T : Tx K mg) : FnOk P w K mg base CX0 206 T.a_l_law T.d_l_law ["_law_script"] (spP K T.C 1 f_l_law) :=
  fn_P (C := T.C) (N := ["_law_script", "_law_three", "_law_pattern", "_law_cell", "_law_deep", "_law_less", "_law_due_here", "_law_way"]) (ps := ["_law_script"]) (k := 205) (m := b_l_law) T.F_l_law sc_l_law fun cdv A outer s H E hr => by
    have hu := hr.units
    exact (ss_cons (sm_set (i := 1) (sc_l_law).nd rfl (.inr rfl) (pm_call (C := T.C) (ok_l_three_by T) (hr.mono (by decide)) (by rfl) T.m_l_three_by T.F_l_three_by.kp T.b_l_three_by pass0 (fun _ _ _ z => z.elim) (am_cons (pm_call (C := T.C) (ok_l_cell_at T) (hr.mono (by decide)) (by rfl) T.m_l_cell_at T.F_l_cell_at.kp T.b_l_cell_at pass0 (fun _ _ _ z => z.elim) (am_cons (pm_v (pv 0)) (am_cons pm_int am_nil)) (alen_cons (alen_cons alen_nil))) am_nil) (alen_cons alen_nil)))
    (ss_cons (sm_set (i := 2) (sc_l_law).nd rfl (.inl rfl) (pm_join (pm_lc (x := "_law_cell") rfl (sc_l_law).nd (im_seq (pm_sl (pm_v (pv 0)) (om_s pm_int) (om_s pm_int))) (blkOk_by (N := ["_law_script", "_law_three", "_law_pattern", "_law_cell", "_law_deep", "_law_less", "_law_due_here", "_law_way"]) (sc := defScope s_l_law) (by decide +kernel)) (fun _ _ _ _ _ => pg_name (i := 3) (sc_l_law).nd rfl (Or.inl rfl)) (fun _ _ _ _ _ => sts_nil) (fun _ _ _ _ _ => (pm_call (C := T.C) (ok_l_piece_by T) (hr.mono (by decide)) (by rfl) T.m_l_piece_by T.F_l_piece_by.kp T.b_l_piece_by pass0 (fun _ _ _ z => z.elim) (am_cons (pm_v (pv 3)) (am_cons (pm_v (pv 1)) am_nil)) (alen_cons (alen_cons alen_nil)))))))
    (ss_cons (sm_if (tm_cmp (sem_eq hu) (pm_op sem_mod (pm_call (C := T.C) (ok_l_cell_at T) (hr.mono (by decide)) (by rfl) T.m_l_cell_at T.F_l_cell_at.kp T.b_l_cell_at pass0 (fun _ _ _ z => z.elim) (am_cons (pm_v (pv 0)) (am_cons pm_int am_nil)) (alen_cons (alen_cons alen_nil))) pm_int) pm_int (nomark _)) (ss_cons (sm_set (i := 4) (sc_l_law).nd rfl (.inl rfl) (pm_op sem_add pm_int (pm_op sem_mod (pm_call (C := T.C) (ok_l_cell_at T) (hr.mono (by decide)) (by rfl) T.m_l_cell_at T.F_l_cell_at.kp T.b_l_cell_at pass0 (fun _ _ _ z => z.elim) (am_cons (pm_v (pv 0)) (am_cons pm_int am_nil)) (alen_cons (alen_cons alen_nil))) pm_int)))
    (ss_cons (sm_set (i := 5) (sc_l_law).nd rfl (.inl rfl) (pm_op sem_sub (pm_op sem_mod (pm_op sem_div (pm_call (C := T.C) (ok_l_cell_at T) (hr.mono (by decide)) (by rfl) T.m_l_cell_at T.F_l_cell_at.kp T.b_l_cell_at pass0 (fun _ _ _ z => z.elim) (am_cons (pm_v (pv 0)) (am_cons pm_int am_nil)) (alen_cons (alen_cons alen_nil))) pm_int) pm_int) pm_int))
    (ss_one (sm_set (i := 2) (sc_l_law).nd rfl (.inl rfl) (pm_op sem_add (pm_op sem_add (pm_op sem_mul pm_str (pm_v (pv 4))) (pm_v (pv 2))) (pm_op sem_mul pm_str (pm_op sem_sub (pm_v (pv 4)) (pm_v (pv 5))))))))) ss_nil)
    (ss_cons (sm_set (i := 6) (sc_l_law).nd rfl (.inl rfl) (pm_call (C := T.C) (ok_l_due T) (hr.mono (by decide)) (by rfl) T.m_l_due T.F_l_due.kp T.b_l_due pass0 (fun _ _ _ z => z.elim) (am_cons (pm_v (pv 2)) am_nil) (alen_cons alen_nil)))
    (ss_cons (sm_for PassesOwn.never rfl (im_r1 (by rfl) T.n_range pm_int) (pg_name (i := 7) (sc_l_law).nd rfl (.inl rfl)) (ss_one (sm_if (tm_cmp (sem_ne hu) (pm_call (C := T.C) (ok_l_refusal T) (hr.mono (by decide)) (by rfl) T.m_l_refusal T.F_l_refusal.kp T.b_l_refusal pass0 (fun _ _ _ z => z.elim) (am_cons (pm_v (pv 2)) (am_cons (pm_v (pv 7)) am_nil)) (alen_cons (alen_cons alen_nil))) (pm_v (pv 6)) (nomark _)) (ss_one (sm_ret pm_bl)) ss_nil)))
    (ss_one (sm_ret (pm_or (pm_cmp (sem_eq hu) (pm_v (pv 6)) pm_str (nomark _)) (pm_one (pm_call (C := T.C) (ok_l_one_class T) (hr.mono (by decide)) (by rfl) T.m_l_one_class T.F_l_one_class.kp T.b_l_one_class pass0 (fun _ _ _ z => z.elim) (am_cons (pm_v (pv 2)) am_nil) (alen_cons alen_nil)))))))))))
end
def spLaw (K : PySem.W.Frag) : Sp := fun vs H Q _ => ∃ (a : Addr) (ns : List Int), vs = [.ref a] ∧ SqL K H a (ns.map V.int) ∧ ns.length ≤ 63 ∧ ∀ H', Q (.bl true) H'
theorem law_sp {K : PySem.W.Frag} {C : Nat → Addr} (h : ∀ ns : List Int, ns.length ≤ 63 → f_l_law [.scr ns] = .ok (.bl true)) : ∀ vs H Q E, spLaw K vs H Q E → spP K C 1 f_l_law vs H Q E := fun vs H Q E ⟨a, ns, e, hs, hl, q⟩ => by
  subst e
  refine ⟨rfl, [], [.scr ns], fun _ z => (nomatch z), ?_, ?_⟩
  · have : imm H [] [] = H := by funext b; unfold imm; simp
    rw [this]
    simp only [DrL, Dr]
    exact ⟨⟨a, rfl, hs⟩, trivial⟩
  · rw [h ns hl]
    intro v H' _ hd
    rw [Dr] at hd
    subst hd
    exact q H'
end Wk
end
namespace Wk
open PySem L2 Snd Bd Mini
theorem kit_own {K : PySem.W.Frag} {S : Addr} {t : Value} {b : Bool} (h2 : PySem.W.isClsIn K S = true) (h3 : PySem.W.typeIn K (.ref S) = some (.type "type")) (h4 : PySem.W.subIn K t (.ref S) = some b) (h5 : PySem.W.subIn K (.ref S) (.ref S) = some true) : PySem.W.kitOne K t (.ref S) = some b := by
  have e2 : ((PySem.W.clsIn K S).isSome && PySem.W.typeIn K (.ref S) == some (.type "type")) = true := by
    have h2' : (PySem.W.clsIn K S).isSome = true := h2
    rw [h2', h3] <;> rfl
  unfold PySem.W.kitOne
  by_cases he : (t == .ref S) = true
  · have e : t = .ref S := by first | exact eq_of_beq he | (cases t <;> first | (have := beq_iff_eq.mp he; exact this) | (cases he))
    rw [if_pos he, ← h4, e, h5]
  · rw [if_neg he]
    show (if ((PySem.W.clsIn K S).isSome && PySem.W.typeIn K (.ref S) == some (.type "type")) = true then PySem.W.subIn K t (.ref S) else none) = some b
    rw [if_pos e2]
    exact h4
theorem kit_ve {K : PySem.W.Frag} {S : Addr} (h : PySem.W.subIn K (.ref S) (.type "ValueError") = some true) : PySem.W.kitOne K (.ref S) (.type "ValueError") = some true := by
  unfold PySem.W.kitOne
  rw [if_neg (show ¬ ((Value.ref S == .type "ValueError") = true) from fun z => by cases z)]
  show (if PySem.W.kitMeta "ValueError" = true then PySem.W.subIn K (.ref S) (.type "ValueError") else none) = some true
  rw [if_pos (by decide +kernel)]
  exact h
theorem all_mk {l : PySem.W.OpenLaw} {w : World} {K : PySem.W.Frag} {h : Heap} {mg : Str → Option Value} {fa : Addr} (X : K.In h) (G : h.Ns mainGlobals mg) (hfa : mg "law" = some (.ref fa)) (main : ∀ ns : List Int, ns.length ≤ 63 → f_l_law [.scr ns] = .ok (.bl true))
    {f0 : Addr} {od0 an0 : Option Addr} {sl0 : Array (Option Value)} {oc0 kV0 dc0 pm0 cd0 ct0 : Value}
    {f1 : Addr} {od1 an1 : Option Addr} {sl1 : Array (Option Value)} {oc1 kV1 dc1 pm1 cd1 ct1 : Value}
    {f2 : Addr} {od2 an2 : Option Addr} {sl2 : Array (Option Value)} {oc2 kV2 dc2 pm2 cd2 ct2 : Value}
    {f3 : Addr} {od3 an3 : Option Addr} {sl3 : Array (Option Value)} {oc3 kV3 dc3 pm3 cd3 ct3 : Value}
    {f4 : Addr} {od4 an4 : Option Addr} {sl4 : Array (Option Value)} {oc4 kV4 dc4 pm4 cd4 ct4 : Value}
    {f5 : Addr} {od5 an5 : Option Addr} {sl5 : Array (Option Value)} {oc5 kV5 dc5 pm5 cd5 ct5 : Value}
    {f6 : Addr} {od6 an6 : Option Addr} {sl6 : Array (Option Value)} {oc6 kV6 dc6 pm6 cd6 ct6 : Value}
    {f7 : Addr} {od7 an7 : Option Addr} {sl7 : Array (Option Value)} {oc7 kV7 dc7 pm7 cd7 ct7 : Value}
    {f8 : Addr} {od8 an8 : Option Addr} {sl8 : Array (Option Value)} {oc8 kV8 dc8 pm8 cd8 ct8 : Value}
    {f9 : Addr} {od9 an9 : Option Addr} {sl9 : Array (Option Value)} {oc9 kV9 dc9 pm9 cd9 ct9 : Value}
    {f10 : Addr} {od10 an10 : Option Addr} {sl10 : Array (Option Value)} {oc10 kV10 dc10 pm10 cd10 ct10 : Value}
    {f11 : Addr} {od11 an11 : Option Addr} {sl11 : Array (Option Value)} {oc11 kV11 dc11 pm11 cd11 ct11 : Value}
    {f12 : Addr} {od12 an12 : Option Addr} {sl12 : Array (Option Value)} {oc12 kV12 dc12 pm12 cd12 ct12 : Value}
    {f13 : Addr} {od13 an13 : Option Addr} {sl13 : Array (Option Value)} {oc13 kV13 dc13 pm13 cd13 ct13 : Value}
    {f14 : Addr} {od14 an14 : Option Addr} {sl14 : Array (Option Value)} {oc14 kV14 dc14 pm14 cd14 ct14 : Value}
    {f15 : Addr} {od15 an15 : Option Addr} {sl15 : Array (Option Value)} {oc15 kV15 dc15 pm15 cd15 ct15 : Value}
    {f16 : Addr} {od16 an16 : Option Addr} {sl16 : Array (Option Value)} {oc16 kV16 dc16 pm16 cd16 ct16 : Value}
    {f17 : Addr} {od17 an17 : Option Addr} {sl17 : Array (Option Value)} {oc17 kV17 dc17 pm17 cd17 ct17 : Value}
    {f18 : Addr} {od18 an18 : Option Addr} {sl18 : Array (Option Value)} {oc18 kV18 dc18 pm18 cd18 ct18 : Value}
    {f19 : Addr} {od19 an19 : Option Addr} {sl19 : Array (Option Value)} {oc19 kV19 dc19 pm19 cd19 ct19 : Value}
    {f20 : Addr} {od20 an20 : Option Addr} {sl20 : Array (Option Value)} {oc20 kV20 dc20 pm20 cd20 ct20 : Value}
    {f21 : Addr} {od21 an21 : Option Addr} {sl21 : Array (Option Value)} {oc21 kV21 dc21 pm21 cd21 ct21 : Value}
    {f22 : Addr} {od22 an22 : Option Addr} {sl22 : Array (Option Value)} {oc22 kV22 dc22 pm22 cd22 ct22 : Value}
    {f23 : Addr} {od23 an23 : Option Addr} {sl23 : Array (Option Value)} {oc23 kV23 dc23 pm23 cd23 ct23 : Value}
    {f24 : Addr} {od24 an24 : Option Addr} {sl24 : Array (Option Value)} {oc24 kV24 dc24 pm24 cd24 ct24 : Value}
    {f25 : Addr} {od25 an25 : Option Addr} {sl25 : Array (Option Value)} {oc25 kV25 dc25 pm25 cd25 ct25 : Value}
    {f26 : Addr} {od26 an26 : Option Addr} {sl26 : Array (Option Value)} {oc26 kV26 dc26 pm26 cd26 ct26 : Value}
    {f27 : Addr} {od27 an27 : Option Addr} {sl27 : Array (Option Value)} {oc27 kV27 dc27 pm27 cd27 ct27 : Value}
    {f28 : Addr} {od28 an28 : Option Addr} {sl28 : Array (Option Value)} {oc28 kV28 dc28 pm28 cd28 ct28 : Value}
    {f29 : Addr} {od29 an29 : Option Addr} {sl29 : Array (Option Value)} {oc29 kV29 dc29 pm29 cd29 ct29 : Value}
    {f30 : Addr} {od30 an30 : Option Addr} {sl30 : Array (Option Value)} {oc30 kV30 dc30 pm30 cd30 ct30 : Value}
    {f31 : Addr} {od31 an31 : Option Addr} {sl31 : Array (Option Value)} {oc31 kV31 dc31 pm31 cd31 ct31 : Value}
    {f32 : Addr} {od32 an32 : Option Addr} {sl32 : Array (Option Value)} {oc32 kV32 dc32 pm32 cd32 ct32 : Value}
    {tk_DEEPEST : Tok}
    {C0 C1 C2 C3 C4 C5 : Addr}
    (a0 : PySem.W.nsIn K mainGlobals "takes" = some (some (.ref f0))) (l0 : K.lookup f0 = some ⟨oc0, od0, .func (PySem.W.fnOf "takes" "takes" (defArgs s_p_takes) (defBody s_p_takes) (defScope s_p_takes) .none kV0 dc0 pm0 an0 cd0 ct0), sl0⟩) (c0 : PySem.W.codeIn K cd0 "takes" = true) (k0 : PySem.W.keepIn K (.ref f0) = true)
    (a1 : PySem.W.nsIn K mainGlobals "bare" = some (some (.ref f1))) (l1 : K.lookup f1 = some ⟨oc1, od1, .func (PySem.W.fnOf "bare" "bare" (defArgs s_p_bare) (defBody s_p_bare) (defScope s_p_bare) .none kV1 dc1 pm1 an1 cd1 ct1), sl1⟩) (c1 : PySem.W.codeIn K cd1 "bare" = true) (k1 : PySem.W.keepIn K (.ref f1) = true)
    (a2 : PySem.W.nsIn K mainGlobals "row_of" = some (some (.ref f2))) (l2 : K.lookup f2 = some ⟨oc2, od2, .func (PySem.W.fnOf "row_of" "row_of" (defArgs s_p_row_of) (defBody s_p_row_of) (defScope s_p_row_of) .none kV2 dc2 pm2 an2 cd2 ct2), sl2⟩) (c2 : PySem.W.codeIn K cd2 "row_of" = true) (k2 : PySem.W.keepIn K (.ref f2) = true)
    (a3 : PySem.W.nsIn K mainGlobals "pick_of" = some (some (.ref f3))) (l3 : K.lookup f3 = some ⟨oc3, od3, .func (PySem.W.fnOf "pick_of" "pick_of" (defArgs s_p_pick_of) (defBody s_p_pick_of) (defScope s_p_pick_of) .none kV3 dc3 pm3 an3 cd3 ct3), sl3⟩) (c3 : PySem.W.codeIn K cd3 "pick_of" = true) (k3 : PySem.W.keepIn K (.ref f3) = true)
    (a4 : PySem.W.nsIn K mainGlobals "set_at" = some (some (.ref f4))) (l4 : K.lookup f4 = some ⟨oc4, od4, .func (PySem.W.fnOf "set_at" "set_at" (defArgs s_p_set_at) (defBody s_p_set_at) (defScope s_p_set_at) .none kV4 dc4 pm4 an4 cd4 ct4), sl4⟩) (c4 : PySem.W.codeIn K cd4 "set_at" = true) (k4 : PySem.W.keepIn K (.ref f4) = true)
    (a5 : PySem.W.nsIn K mainGlobals "piece_at" = some (some (.ref f5))) (l5 : K.lookup f5 = some ⟨oc5, od5, .func (PySem.W.fnOf "piece_at" "piece_at" (defArgs s_p_piece_at) (defBody s_p_piece_at) (defScope s_p_piece_at) .none kV5 dc5 pm5 an5 cd5 ct5), sl5⟩) (c5 : PySem.W.codeIn K cd5 "piece_at" = true) (k5 : PySem.W.keepIn K (.ref f5) = true)
    (a6 : PySem.W.nsIn K mainGlobals "repeated" = some (some (.ref f6))) (l6 : K.lookup f6 = some ⟨oc6, od6, .func (PySem.W.fnOf "repeated" "repeated" (defArgs s_p_repeated) (defBody s_p_repeated) (defScope s_p_repeated) .none kV6 dc6 pm6 an6 cd6 ct6), sl6⟩) (c6 : PySem.W.codeIn K cd6 "repeated" = true) (k6 : PySem.W.keepIn K (.ref f6) = true)
    (a7 : PySem.W.nsIn K mainGlobals "closed" = some (some (.ref f7))) (l7 : K.lookup f7 = some ⟨oc7, od7, .func (PySem.W.fnOf "closed" "closed" (defArgs s_p_closed) (defBody s_p_closed) (defScope s_p_closed) .none kV7 dc7 pm7 an7 cd7 ct7), sl7⟩) (c7 : PySem.W.codeIn K cd7 "closed" = true) (k7 : PySem.W.keepIn K (.ref f7) = true)
    (a8 : PySem.W.nsIn K mainGlobals "opened" = some (some (.ref f8))) (l8 : K.lookup f8 = some ⟨oc8, od8, .func (PySem.W.fnOf "opened" "opened" (defArgs s_p_opened) (defBody s_p_opened) (defScope s_p_opened) .none kV8 dc8 pm8 an8 cd8 ct8), sl8⟩) (c8 : PySem.W.codeIn K cd8 "opened" = true) (k8 : PySem.W.keepIn K (.ref f8) = true)
    (a9 : PySem.W.nsIn K mainGlobals "read" = some (some (.ref f9))) (l9 : K.lookup f9 = some ⟨oc9, od9, .func (PySem.W.fnOf "read" "read" (defArgs s_p_read) (defBody s_p_read) (defScope s_p_read) .none kV9 dc9 pm9 an9 cd9 ct9), sl9⟩) (c9 : PySem.W.codeIn K cd9 "read" = true) (k9 : PySem.W.keepIn K (.ref f9) = true)
    (a10 : PySem.W.nsIn K mainGlobals "parted" = some (some (.ref f10))) (l10 : K.lookup f10 = some ⟨oc10, od10, .func (PySem.W.fnOf "parted" "parted" (defArgs s_p_parted) (defBody s_p_parted) (defScope s_p_parted) .none kV10 dc10 pm10 an10 cd10 ct10), sl10⟩) (c10 : PySem.W.codeIn K cd10 "parted" = true) (k10 : PySem.W.keepIn K (.ref f10) = true)
    (a11 : PySem.W.nsIn K mainGlobals "picked" = some (some (.ref f11))) (l11 : K.lookup f11 = some ⟨oc11, od11, .func (PySem.W.fnOf "picked" "picked" (defArgs s_p_picked) (defBody s_p_picked) (defScope s_p_picked) .none kV11 dc11 pm11 an11 cd11 ct11), sl11⟩) (c11 : PySem.W.codeIn K cd11 "picked" = true) (k11 : PySem.W.keepIn K (.ref f11) = true)
    (a12 : PySem.W.nsIn K mainGlobals "built" = some (some (.ref f12))) (l12 : K.lookup f12 = some ⟨oc12, od12, .func (PySem.W.fnOf "built" "built" (defArgs s_p_built) (defBody s_p_built) (defScope s_p_built) .none kV12 dc12 pm12 an12 cd12 ct12), sl12⟩) (c12 : PySem.W.codeIn K cd12 "built" = true) (k12 : PySem.W.keepIn K (.ref f12) = true)
    (a13 : PySem.W.nsIn K mainGlobals "net_of" = some (some (.ref f13))) (l13 : K.lookup f13 = some ⟨oc13, od13, .func (PySem.W.fnOf "net_of" "net_of" (defArgs s_p_net_of) (defBody s_p_net_of) (defScope s_p_net_of) .none kV13 dc13 pm13 an13 cd13 ct13), sl13⟩) (c13 : PySem.W.codeIn K cd13 "net_of" = true) (k13 : PySem.W.keepIn K (.ref f13) = true)
    (a14 : PySem.W.nsIn K mainGlobals "led_in" = some (some (.ref f14))) (l14 : K.lookup f14 = some ⟨oc14, od14, .func (PySem.W.fnOf "led_in" "led_in" (defArgs s_p_led_in) (defBody s_p_led_in) (defScope s_p_led_in) .none kV14 dc14 pm14 an14 cd14 ct14), sl14⟩) (c14 : PySem.W.codeIn K cd14 "led_in" = true) (k14 : PySem.W.keepIn K (.ref f14) = true)
    (a15 : PySem.W.nsIn K mainGlobals "row_behind" = some (some (.ref f15))) (l15 : K.lookup f15 = some ⟨oc15, od15, .func (PySem.W.fnOf "row_behind" "row_behind" (defArgs s_p_row_behind) (defBody s_p_row_behind) (defScope s_p_row_behind) .none kV15 dc15 pm15 an15 cd15 ct15), sl15⟩) (c15 : PySem.W.codeIn K cd15 "row_behind" = true) (k15 : PySem.W.keepIn K (.ref f15) = true)
    (a16 : PySem.W.nsIn K mainGlobals "sweep" = some (some (.ref f16))) (l16 : K.lookup f16 = some ⟨oc16, od16, .func (PySem.W.fnOf "sweep" "sweep" (defArgs s_p_sweep) (defBody s_p_sweep) (defScope s_p_sweep) .none kV16 dc16 pm16 an16 cd16 ct16), sl16⟩) (c16 : PySem.W.codeIn K cd16 "sweep" = true) (k16 : PySem.W.keepIn K (.ref f16) = true)
    (a17 : PySem.W.nsIn K mainGlobals "swept" = some (some (.ref f17))) (l17 : K.lookup f17 = some ⟨oc17, od17, .func (PySem.W.fnOf "swept" "swept" (defArgs s_p_swept) (defBody s_p_swept) (defScope s_p_swept) .none kV17 dc17 pm17 an17 cd17 ct17), sl17⟩) (c17 : PySem.W.codeIn K cd17 "swept" = true) (k17 : PySem.W.keepIn K (.ref f17) = true)
    (a18 : PySem.W.nsIn K mainGlobals "first" = some (some (.ref f18))) (l18 : K.lookup f18 = some ⟨oc18, od18, .func (PySem.W.fnOf "first" "first" (defArgs s_p_first) (defBody s_p_first) (defScope s_p_first) .none kV18 dc18 pm18 an18 cd18 ct18), sl18⟩) (c18 : PySem.W.codeIn K cd18 "first" = true) (k18 : PySem.W.keepIn K (.ref f18) = true)
    (a19 : PySem.W.nsIn K mainGlobals "all_found" = some (some (.ref f19))) (l19 : K.lookup f19 = some ⟨oc19, od19, .func (PySem.W.fnOf "all_found" "all_found" (defArgs s_p_all_found) (defBody s_p_all_found) (defScope s_p_all_found) .none kV19 dc19 pm19 an19 cd19 ct19), sl19⟩) (c19 : PySem.W.codeIn K cd19 "all_found" = true) (k19 : PySem.W.keepIn K (.ref f19) = true)
    (a20 : PySem.W.nsIn K mainGlobals "_law_cell_at" = some (some (.ref f20))) (l20 : K.lookup f20 = some ⟨oc20, od20, .func (PySem.W.fnOf "_law_cell_at" "_law_cell_at" (defArgs s_l_cell_at) (defBody s_l_cell_at) (defScope s_l_cell_at) .none kV20 dc20 pm20 an20 cd20 ct20), sl20⟩) (c20 : PySem.W.codeIn K cd20 "_law_cell_at" = true) (k20 : PySem.W.keepIn K (.ref f20) = true)
    (a21 : PySem.W.nsIn K mainGlobals "_law_sign_by" = some (some (.ref f21))) (l21 : K.lookup f21 = some ⟨oc21, od21, .func (PySem.W.fnOf "_law_sign_by" "_law_sign_by" (defArgs s_l_sign_by) (defBody s_l_sign_by) (defScope s_l_sign_by) .none kV21 dc21 pm21 an21 cd21 ct21), sl21⟩) (c21 : PySem.W.codeIn K cd21 "_law_sign_by" = true) (k21 : PySem.W.keepIn K (.ref f21) = true)
    (a22 : PySem.W.nsIn K mainGlobals "_law_three_by" = some (some (.ref f22))) (l22 : K.lookup f22 = some ⟨oc22, od22, .func (PySem.W.fnOf "_law_three_by" "_law_three_by" (defArgs s_l_three_by) (defBody s_l_three_by) (defScope s_l_three_by) .none kV22 dc22 pm22 an22 cd22 ct22), sl22⟩) (c22 : PySem.W.codeIn K cd22 "_law_three_by" = true) (k22 : PySem.W.keepIn K (.ref f22) = true)
    (a23 : PySem.W.nsIn K mainGlobals "_law_set_end" = some (some (.ref f23))) (l23 : K.lookup f23 = some ⟨oc23, od23, .func (PySem.W.fnOf "_law_set_end" "_law_set_end" (defArgs s_l_set_end) (defBody s_l_set_end) (defScope s_l_set_end) .none kV23 dc23 pm23 an23 cd23 ct23), sl23⟩) (c23 : PySem.W.codeIn K cd23 "_law_set_end" = true) (k23 : PySem.W.keepIn K (.ref f23) = true)
    (a24 : PySem.W.nsIn K mainGlobals "_law_closed" = some (some (.ref f24))) (l24 : K.lookup f24 = some ⟨oc24, od24, .func (PySem.W.fnOf "_law_closed" "_law_closed" (defArgs s_l_closed) (defBody s_l_closed) (defScope s_l_closed) .none kV24 dc24 pm24 an24 cd24 ct24), sl24⟩) (c24 : PySem.W.codeIn K cd24 "_law_closed" = true) (k24 : PySem.W.keepIn K (.ref f24) = true)
    (a25 : PySem.W.nsIn K mainGlobals "_law_grouped" = some (some (.ref f25))) (l25 : K.lookup f25 = some ⟨oc25, od25, .func (PySem.W.fnOf "_law_grouped" "_law_grouped" (defArgs s_l_grouped) (defBody s_l_grouped) (defScope s_l_grouped) .none kV25 dc25 pm25 an25 cd25 ct25), sl25⟩) (c25 : PySem.W.codeIn K cd25 "_law_grouped" = true) (k25 : PySem.W.keepIn K (.ref f25) = true)
    (a26 : PySem.W.nsIn K mainGlobals "_law_wrong_repeat" = some (some (.ref f26))) (l26 : K.lookup f26 = some ⟨oc26, od26, .func (PySem.W.fnOf "_law_wrong_repeat" "_law_wrong_repeat" (defArgs s_l_wrong_repeat) (defBody s_l_wrong_repeat) (defScope s_l_wrong_repeat) .none kV26 dc26 pm26 an26 cd26 ct26), sl26⟩) (c26 : PySem.W.codeIn K cd26 "_law_wrong_repeat" = true) (k26 : PySem.W.keepIn K (.ref f26) = true)
    (a27 : PySem.W.nsIn K mainGlobals "_law_due" = some (some (.ref f27))) (l27 : K.lookup f27 = some ⟨oc27, od27, .func (PySem.W.fnOf "_law_due" "_law_due" (defArgs s_l_due) (defBody s_l_due) (defScope s_l_due) .none kV27 dc27 pm27 an27 cd27 ct27), sl27⟩) (c27 : PySem.W.codeIn K cd27 "_law_due" = true) (k27 : PySem.W.keepIn K (.ref f27) = true)
    (a28 : PySem.W.nsIn K mainGlobals "_law_asked" = some (some (.ref f28))) (l28 : K.lookup f28 = some ⟨oc28, od28, .func (PySem.W.fnOf "_law_asked" "_law_asked" (defArgs s_l_asked) (defBody s_l_asked) (defScope s_l_asked) .none kV28 dc28 pm28 an28 cd28 ct28), sl28⟩) (c28 : PySem.W.codeIn K cd28 "_law_asked" = true) (k28 : PySem.W.keepIn K (.ref f28) = true)
    (a29 : PySem.W.nsIn K mainGlobals "_law_refusal" = some (some (.ref f29))) (l29 : K.lookup f29 = some ⟨oc29, od29, .func (PySem.W.fnOf "_law_refusal" "_law_refusal" (defArgs s_l_refusal) (defBody s_l_refusal) (defScope s_l_refusal) .none kV29 dc29 pm29 an29 cd29 ct29), sl29⟩) (c29 : PySem.W.codeIn K cd29 "_law_refusal" = true) (k29 : PySem.W.keepIn K (.ref f29) = true)
    (a30 : PySem.W.nsIn K mainGlobals "_law_one_class" = some (some (.ref f30))) (l30 : K.lookup f30 = some ⟨oc30, od30, .func (PySem.W.fnOf "_law_one_class" "_law_one_class" (defArgs s_l_one_class) (defBody s_l_one_class) (defScope s_l_one_class) .none kV30 dc30 pm30 an30 cd30 ct30), sl30⟩) (c30 : PySem.W.codeIn K cd30 "_law_one_class" = true) (k30 : PySem.W.keepIn K (.ref f30) = true)
    (a31 : PySem.W.nsIn K mainGlobals "_law_piece_by" = some (some (.ref f31))) (l31 : K.lookup f31 = some ⟨oc31, od31, .func (PySem.W.fnOf "_law_piece_by" "_law_piece_by" (defArgs s_l_piece_by) (defBody s_l_piece_by) (defScope s_l_piece_by) .none kV31 dc31 pm31 an31 cd31 ct31), sl31⟩) (c31 : PySem.W.codeIn K cd31 "_law_piece_by" = true) (k31 : PySem.W.keepIn K (.ref f31) = true)
    (a32 : PySem.W.nsIn K mainGlobals "law" = some (some (.ref f32))) (l32 : K.lookup f32 = some ⟨oc32, od32, .func (PySem.W.fnOf "law" "law" (defArgs s_l_law) (defBody s_l_law) (defScope s_l_law) .none kV32 dc32 pm32 an32 cd32 ct32), sl32⟩) (c32 : PySem.W.codeIn K cd32 "law" = true) (k32 : PySem.W.keepIn K (.ref f32) = true)
    (z_ValueError : PySem.W.nsIn K mainGlobals "ValueError" = some none)
    (z_all : PySem.W.nsIn K mainGlobals "all" = some none)
    (z_any : PySem.W.nsIn K mainGlobals "any" = some none)
    (z_isinstance : PySem.W.nsIn K mainGlobals "isinstance" = some none)
    (z_len : PySem.W.nsIn K mainGlobals "len" = some none)
    (z_list : PySem.W.nsIn K mainGlobals "list" = some none)
    (z_max : PySem.W.nsIn K mainGlobals "max" = some none)
    (z_range : PySem.W.nsIn K mainGlobals "range" = some none)
    (z_reversed : PySem.W.nsIn K mainGlobals "reversed" = some none)
    (z_str : PySem.W.nsIn K mainGlobals "str" = some none)
    (z_tuple : PySem.W.nsIn K mainGlobals "tuple" = some none)
    (y_DEEPEST : PySem.W.nsIn K mainGlobals "DEEPEST" = some (some (.int 30 tk_DEEPEST)))
    (gC0 : PySem.W.nsIn K mainGlobals "Unclosed" = some (some (.ref C0)))
    (sC0 : PySem.W.subIn K (.ref C0) (.type "BaseException") = some true)
    (tC0 : PySem.W.typeIn K (.ref C0) = some (.type "type"))
    (iC0 : PySem.W.isClsIn K C0 = true)
    (hC0 : PySem.W.hasDictIn K C0 = true)
    (gC1 : PySem.W.nsIn K mainGlobals "Unopened" = some (some (.ref C1)))
    (sC1 : PySem.W.subIn K (.ref C1) (.type "BaseException") = some true)
    (tC1 : PySem.W.typeIn K (.ref C1) = some (.type "type"))
    (iC1 : PySem.W.isClsIn K C1 = true)
    (hC1 : PySem.W.hasDictIn K C1 = true)
    (gC2 : PySem.W.nsIn K mainGlobals "NothingAhead" = some (some (.ref C2)))
    (sC2 : PySem.W.subIn K (.ref C2) (.type "BaseException") = some true)
    (tC2 : PySem.W.typeIn K (.ref C2) = some (.type "type"))
    (iC2 : PySem.W.isClsIn K C2 = true)
    (hC2 : PySem.W.hasDictIn K C2 = true)
    (gC3 : PySem.W.nsIn K mainGlobals "EmptyRound" = some (some (.ref C3)))
    (sC3 : PySem.W.subIn K (.ref C3) (.type "BaseException") = some true)
    (tC3 : PySem.W.typeIn K (.ref C3) = some (.type "type"))
    (iC3 : PySem.W.isClsIn K C3 = true)
    (hC3 : PySem.W.hasDictIn K C3 = true)
    (gC4 : PySem.W.nsIn K mainGlobals "TooDeep" = some (some (.ref C4)))
    (sC4 : PySem.W.subIn K (.ref C4) (.type "BaseException") = some true)
    (tC4 : PySem.W.typeIn K (.ref C4) = some (.type "type"))
    (iC4 : PySem.W.isClsIn K C4 = true)
    (hC4 : PySem.W.hasDictIn K C4 = true)
    (gC5 : PySem.W.nsIn K mainGlobals "PatternError" = some (some (.ref C5)))
    (sC5 : PySem.W.subIn K (.ref C5) (.type "BaseException") = some true)
    (tC5 : PySem.W.typeIn K (.ref C5) = some (.type "type"))
    (iC5 : PySem.W.isClsIn K C5 = true)
    (hC5 : PySem.W.hasDictIn K C5 = true)
    (xC0 : PySem.W.excIn K C0 [.type "ValueError", .type "Exception", .type "BaseException", .type "object"] "ValueError.__new__" = true)
    (kC0 : PySem.W.keepIn K (.ref C0) = true)
    (vC0 : PySem.W.subIn K (.ref C0) (.type "ValueError") = some true)
    (aC0 : PySem.W.findIn K (.ref C0) "__getattribute__" = some (some (.builtin "BaseException.__getattribute__")))
    (bC0 : PySem.W.findIn K (.ref C0) "__getattr__" = some none)
    (dC0 : PySem.W.findIn K (.ref C0) "__class__" = some (some (.builtin "object.__class__")))
    (mC0 : PySem.W.mroIn K C0 (.type "object") = some true)
    (u00 : PySem.W.subIn K (.ref C0) (.ref C0) = some true)
    (u01 : PySem.W.subIn K (.ref C0) (.ref C1) = some false)
    (u02 : PySem.W.subIn K (.ref C0) (.ref C2) = some false)
    (u03 : PySem.W.subIn K (.ref C0) (.ref C3) = some false)
    (u04 : PySem.W.subIn K (.ref C0) (.ref C4) = some false)
    (u05 : PySem.W.subIn K (.ref C0) (.ref C5) = some true)
    (xC1 : PySem.W.excIn K C1 [.type "ValueError", .type "Exception", .type "BaseException", .type "object"] "ValueError.__new__" = true)
    (kC1 : PySem.W.keepIn K (.ref C1) = true)
    (vC1 : PySem.W.subIn K (.ref C1) (.type "ValueError") = some true)
    (aC1 : PySem.W.findIn K (.ref C1) "__getattribute__" = some (some (.builtin "BaseException.__getattribute__")))
    (bC1 : PySem.W.findIn K (.ref C1) "__getattr__" = some none)
    (dC1 : PySem.W.findIn K (.ref C1) "__class__" = some (some (.builtin "object.__class__")))
    (mC1 : PySem.W.mroIn K C1 (.type "object") = some true)
    (u10 : PySem.W.subIn K (.ref C1) (.ref C0) = some false)
    (u11 : PySem.W.subIn K (.ref C1) (.ref C1) = some true)
    (u12 : PySem.W.subIn K (.ref C1) (.ref C2) = some false)
    (u13 : PySem.W.subIn K (.ref C1) (.ref C3) = some false)
    (u14 : PySem.W.subIn K (.ref C1) (.ref C4) = some false)
    (u15 : PySem.W.subIn K (.ref C1) (.ref C5) = some true)
    (xC2 : PySem.W.excIn K C2 [.type "ValueError", .type "Exception", .type "BaseException", .type "object"] "ValueError.__new__" = true)
    (kC2 : PySem.W.keepIn K (.ref C2) = true)
    (vC2 : PySem.W.subIn K (.ref C2) (.type "ValueError") = some true)
    (aC2 : PySem.W.findIn K (.ref C2) "__getattribute__" = some (some (.builtin "BaseException.__getattribute__")))
    (bC2 : PySem.W.findIn K (.ref C2) "__getattr__" = some none)
    (dC2 : PySem.W.findIn K (.ref C2) "__class__" = some (some (.builtin "object.__class__")))
    (mC2 : PySem.W.mroIn K C2 (.type "object") = some true)
    (u20 : PySem.W.subIn K (.ref C2) (.ref C0) = some false)
    (u21 : PySem.W.subIn K (.ref C2) (.ref C1) = some false)
    (u22 : PySem.W.subIn K (.ref C2) (.ref C2) = some true)
    (u23 : PySem.W.subIn K (.ref C2) (.ref C3) = some false)
    (u24 : PySem.W.subIn K (.ref C2) (.ref C4) = some false)
    (u25 : PySem.W.subIn K (.ref C2) (.ref C5) = some true)
    (xC3 : PySem.W.excIn K C3 [.type "ValueError", .type "Exception", .type "BaseException", .type "object"] "ValueError.__new__" = true)
    (kC3 : PySem.W.keepIn K (.ref C3) = true)
    (vC3 : PySem.W.subIn K (.ref C3) (.type "ValueError") = some true)
    (aC3 : PySem.W.findIn K (.ref C3) "__getattribute__" = some (some (.builtin "BaseException.__getattribute__")))
    (bC3 : PySem.W.findIn K (.ref C3) "__getattr__" = some none)
    (dC3 : PySem.W.findIn K (.ref C3) "__class__" = some (some (.builtin "object.__class__")))
    (mC3 : PySem.W.mroIn K C3 (.type "object") = some true)
    (u30 : PySem.W.subIn K (.ref C3) (.ref C0) = some false)
    (u31 : PySem.W.subIn K (.ref C3) (.ref C1) = some false)
    (u32 : PySem.W.subIn K (.ref C3) (.ref C2) = some false)
    (u33 : PySem.W.subIn K (.ref C3) (.ref C3) = some true)
    (u34 : PySem.W.subIn K (.ref C3) (.ref C4) = some false)
    (u35 : PySem.W.subIn K (.ref C3) (.ref C5) = some true)
    (xC4 : PySem.W.excIn K C4 [.type "ValueError", .type "Exception", .type "BaseException", .type "object"] "ValueError.__new__" = true)
    (kC4 : PySem.W.keepIn K (.ref C4) = true)
    (vC4 : PySem.W.subIn K (.ref C4) (.type "ValueError") = some true)
    (aC4 : PySem.W.findIn K (.ref C4) "__getattribute__" = some (some (.builtin "BaseException.__getattribute__")))
    (bC4 : PySem.W.findIn K (.ref C4) "__getattr__" = some none)
    (dC4 : PySem.W.findIn K (.ref C4) "__class__" = some (some (.builtin "object.__class__")))
    (mC4 : PySem.W.mroIn K C4 (.type "object") = some true)
    (u40 : PySem.W.subIn K (.ref C4) (.ref C0) = some false)
    (u41 : PySem.W.subIn K (.ref C4) (.ref C1) = some false)
    (u42 : PySem.W.subIn K (.ref C4) (.ref C2) = some false)
    (u43 : PySem.W.subIn K (.ref C4) (.ref C3) = some false)
    (u44 : PySem.W.subIn K (.ref C4) (.ref C4) = some true)
    (u45 : PySem.W.subIn K (.ref C4) (.ref C5) = some true)
    (pC : PySem.W.specialIn K (.builtin "object.__class__") "__get__" = some (some (.builtin "getset_descriptor.__get__")))
    (qC : PySem.W.takesIn K (.builtin "object.__class__") = some true) :
    ∃ fd : FuncData, (∀ (s : Shared) (v : Value), BindsTo s fd ⟨[v], []⟩ [("_law_script", v)]) ∧ ∀ base : Heap, K.In base → base.Ns mainGlobals mg → FnOk l.prog w K mg base CX0 206 fa fd ["_law_script"] (spLaw K) := by
  have e := hfa.symm.trans (PySem.W.mg_of X G a32)
  cases e
  have F0 := fun_mk (st := s_p_takes) l0 c0 k0
  have b0 := F0.binds (ps := ["inside", "signs", "sign"]) fun _ _ _ _ _ _ us hl => match us, hl with | [_, _, _], _ => rfl
  have F1 := fun_mk (st := s_p_bare) l1 c1 k1
  have b1 := F1.binds (ps := ["tree"]) fun _ _ _ _ _ _ us hl => match us, hl with | [_], _ => rfl
  have F2 := fun_mk (st := s_p_row_of) l2 c2 k2
  have b2 := F2.binds (ps := ["pieces"]) fun _ _ _ _ _ _ us hl => match us, hl with | [_], _ => rfl
  have F3 := fun_mk (st := s_p_pick_of) l3 c3 k3
  have b3 := F3.binds (ps := ["rows"]) fun _ _ _ _ _ _ us hl => match us, hl with | [_], _ => rfl
  have F4 := fun_mk (st := s_p_set_at) l4 c4 k4
  have b4 := F4.binds (ps := ["pattern", "at"]) fun _ _ _ _ _ _ us hl => match us, hl with | [_, _], _ => rfl
  have F5 := fun_mk (st := s_p_piece_at) l5 c5 k5
  have b5 := F5.binds (ps := ["pattern", "at"]) fun _ _ _ _ _ _ us hl => match us, hl with | [_, _], _ => rfl
  have F6 := fun_mk (st := s_p_repeated) l6 c6 k6
  have b6 := F6.binds (ps := ["sign", "ready", "pieces", "eager"]) fun _ _ _ _ _ _ us hl => match us, hl with | [_, _, _, _], _ => rfl
  have F7 := fun_mk (st := s_p_closed) l7 c7 k7
  have b7 := F7.binds (ps := ["frames"]) fun _ _ _ _ _ _ us hl => match us, hl with | [_], _ => rfl
  have F8 := fun_mk (st := s_p_opened) l8 c8 k8
  have b8 := F8.binds (ps := ["frames"]) fun _ _ _ _ _ _ us hl => match us, hl with | [_], _ => rfl
  have F9 := fun_mk (st := s_p_read) l9 c9 k9
  have b9 := F9.binds (ps := ["pattern"]) fun _ _ _ _ _ _ us hl => match us, hl with | [_], _ => rfl
  have F10 := fun_mk (st := s_p_parted) l10 c10 k10
  have b10 := F10.binds (ps := ["entry", "then", "eager"]) fun _ _ _ _ _ _ us hl => match us, hl with | [_, _, _], _ => rfl
  have F11 := fun_mk (st := s_p_picked) l11 c11 k11
  have b11 := F11.binds (ps := ["parts", "then", "steps"]) fun _ _ _ _ _ _ us hl => match us, hl with | [_, _, _], _ => rfl
  have F12 := fun_mk (st := s_p_built) l12 c12 k12
  have b12 := F12.binds (ps := ["tree", "then", "steps"]) fun _ _ _ _ _ _ us hl => match us, hl with | [_, _, _], _ => rfl
  have F13 := fun_mk (st := s_p_net_of) l13 c13 k13
  have b13 := F13.binds (ps := ["tree"]) fun _ _ _ _ _ _ us hl => match us, hl with | [_], _ => rfl
  have F14 := fun_mk (st := s_p_led_in) l14 c14 k14
  have b14 := F14.binds (ps := ["net", "row", "seen", "step", "begin"]) fun _ _ _ _ _ _ us hl => match us, hl with | [_, _, _, _, _], _ => rfl
  have F15 := fun_mk (st := s_p_row_behind) l15 c15 k15
  have b15 := F15.binds (ps := ["net", "before", "sign", "place", "is_open"]) fun _ _ _ _ _ _ us hl => match us, hl with | [_, _, _, _, _], _ => rfl
  have F16 := fun_mk (st := s_p_sweep) l16 c16 k16
  have b16 := F16.binds (ps := ["net", "text"]) fun _ _ _ _ _ _ us hl => match us, hl with | [_, _], _ => rfl
  have F17 := fun_mk (st := s_p_swept) l17 c17 k17
  have b17 := F17.binds (ps := ["net", "text"]) fun _ _ _ _ _ _ us hl => match us, hl with | [_, _], _ => rfl
  have F18 := fun_mk (st := s_p_first) l18 c18 k18
  have b18 := F18.binds (ps := ["pattern", "text"]) fun _ _ _ _ _ _ us hl => match us, hl with | [_, _], _ => rfl
  have F19 := fun_mk (st := s_p_all_found) l19 c19 k19
  have b19 := F19.binds (ps := ["pattern", "text"]) fun _ _ _ _ _ _ us hl => match us, hl with | [_, _], _ => rfl
  have F20 := fun_mk (st := s_l_cell_at) l20 c20 k20
  have b20 := F20.binds (ps := ["_law_script", "_law_k"]) fun _ _ _ _ _ _ us hl => match us, hl with | [_, _], _ => rfl
  have F21 := fun_mk (st := s_l_sign_by) l21 c21 k21
  have b21 := F21.binds (ps := ["_law_cell"]) fun _ _ _ _ _ _ us hl => match us, hl with | [_], _ => rfl
  have F22 := fun_mk (st := s_l_three_by) l22 c22 k22
  have b22 := F22.binds (ps := ["_law_cell"]) fun _ _ _ _ _ _ us hl => match us, hl with | [_], _ => rfl
  have F23 := fun_mk (st := s_l_set_end) l23 c23 k23
  have b23 := F23.binds (ps := ["_law_pattern", "_law_at"]) fun _ _ _ _ _ _ us hl => match us, hl with | [_, _], _ => rfl
  have F24 := fun_mk (st := s_l_closed) l24 c24 k24
  have b24 := F24.binds (ps := ["_law_frames"]) fun _ _ _ _ _ _ us hl => match us, hl with | [_], _ => rfl
  have F25 := fun_mk (st := s_l_grouped) l25 c25 k25
  have b25 := F25.binds (ps := ["_law_frames", "_law_sign"]) fun _ _ _ _ _ _ us hl => match us, hl with | [_, _], _ => rfl
  have F26 := fun_mk (st := s_l_wrong_repeat) l26 c26 k26
  have b26 := F26.binds (ps := ["_law_sign", "_law_ready", "_law_last"]) fun _ _ _ _ _ _ us hl => match us, hl with | [_, _, _], _ => rfl
  have F27 := fun_mk (st := s_l_due) l27 c27 k27
  have b27 := F27.binds (ps := ["_law_pattern"]) fun _ _ _ _ _ _ us hl => match us, hl with | [_], _ => rfl
  have F28 := fun_mk (st := s_l_asked) l28 c28 k28
  have b28 := F28.binds (ps := ["_law_pattern", "_law_way"]) fun _ _ _ _ _ _ us hl => match us, hl with | [_, _], _ => rfl
  have F29 := fun_mk (st := s_l_refusal) l29 c29 k29
  have b29 := F29.binds (ps := ["_law_pattern", "_law_way"]) fun _ _ _ _ _ _ us hl => match us, hl with | [_, _], _ => rfl
  have F30 := fun_mk (st := s_l_one_class) l30 c30 k30
  have b30 := F30.binds (ps := ["_law_pattern"]) fun _ _ _ _ _ _ us hl => match us, hl with | [_], _ => rfl
  have F31 := fun_mk (st := s_l_piece_by) l31 c31 k31
  have b31 := F31.binds (ps := ["_law_cell", "_law_three"]) fun _ _ _ _ _ _ us hl => match us, hl with | [_, _], _ => rfl
  have F32 := fun_mk (st := s_l_law) l32 c32 k32
  have b32 := F32.binds (ps := ["_law_script"]) fun _ _ _ _ _ _ us hl => match us, hl with | [_], _ => rfl
  let T : Tx K mg := { C := fun i => match i with | 0 => C0 | 1 => C1 | 2 => C2 | 3 => C3 | 4 => C4 | _ => C5, exm := fun i j hi hj => match i, j, hi, hj with | 0, 0, _, _ => PySem.W.exm_ref sC0 hC0 tC0 u00 | 0, 1, _, _ => PySem.W.exm_ref sC1 hC1 tC1 u01 | 0, 2, _, _ => PySem.W.exm_ref sC2 hC2 tC2 u02 | 0, 3, _, _ => PySem.W.exm_ref sC3 hC3 tC3 u03 | 0, 4, _, _ => PySem.W.exm_ref sC4 hC4 tC4 u04 | 1, 0, _, _ => PySem.W.exm_ref sC0 hC0 tC0 u10 | 1, 1, _, _ => PySem.W.exm_ref sC1 hC1 tC1 u11 | 1, 2, _, _ => PySem.W.exm_ref sC2 hC2 tC2 u12 | 1, 3, _, _ => PySem.W.exm_ref sC3 hC3 tC3 u13 | 1, 4, _, _ => PySem.W.exm_ref sC4 hC4 tC4 u14 | 2, 0, _, _ => PySem.W.exm_ref sC0 hC0 tC0 u20 | 2, 1, _, _ => PySem.W.exm_ref sC1 hC1 tC1 u21 | 2, 2, _, _ => PySem.W.exm_ref sC2 hC2 tC2 u22 | 2, 3, _, _ => PySem.W.exm_ref sC3 hC3 tC3 u23 | 2, 4, _, _ => PySem.W.exm_ref sC4 hC4 tC4 u24 | 3, 0, _, _ => PySem.W.exm_ref sC0 hC0 tC0 u30 | 3, 1, _, _ => PySem.W.exm_ref sC1 hC1 tC1 u31 | 3, 2, _, _ => PySem.W.exm_ref sC2 hC2 tC2 u32 | 3, 3, _, _ => PySem.W.exm_ref sC3 hC3 tC3 u33 | 3, 4, _, _ => PySem.W.exm_ref sC4 hC4 tC4 u34 | 4, 0, _, _ => PySem.W.exm_ref sC0 hC0 tC0 u40 | 4, 1, _, _ => PySem.W.exm_ref sC1 hC1 tC1 u41 | 4, 2, _, _ => PySem.W.exm_ref sC2 hC2 tC2 u42 | 4, 3, _, _ => PySem.W.exm_ref sC3 hC3 tC3 u43 | 4, 4, _, _ => PySem.W.exm_ref sC4 hC4 tC4 u44 | _ + 5, _, h, _ => absurd h (by omega) | _, _ + 5, _, h => absurd h (by omega), exP := fun i hi => match i, hi with | 0, _ => PySem.W.exm_ref sC5 hC5 tC5 u05 | 1, _ => PySem.W.exm_ref sC5 hC5 tC5 u15 | 2, _ => PySem.W.exm_ref sC5 hC5 tC5 u25 | 3, _ => PySem.W.exm_ref sC5 hC5 tC5 u35 | 4, _ => PySem.W.exm_ref sC5 hC5 tC5 u45 | _ + 5, h => absurd h (by omega), kit := fun i j hi hj => match i, j, hi, hj with | 0, 0, _, _ => kit_own iC0 tC0 u00 u00 | 0, 1, _, _ => kit_own iC1 tC1 u01 u11 | 0, 2, _, _ => kit_own iC2 tC2 u02 u22 | 0, 3, _, _ => kit_own iC3 tC3 u03 u33 | 0, 4, _, _ => kit_own iC4 tC4 u04 u44 | 1, 0, _, _ => kit_own iC0 tC0 u10 u00 | 1, 1, _, _ => kit_own iC1 tC1 u11 u11 | 1, 2, _, _ => kit_own iC2 tC2 u12 u22 | 1, 3, _, _ => kit_own iC3 tC3 u13 u33 | 1, 4, _, _ => kit_own iC4 tC4 u14 u44 | 2, 0, _, _ => kit_own iC0 tC0 u20 u00 | 2, 1, _, _ => kit_own iC1 tC1 u21 u11 | 2, 2, _, _ => kit_own iC2 tC2 u22 u22 | 2, 3, _, _ => kit_own iC3 tC3 u23 u33 | 2, 4, _, _ => kit_own iC4 tC4 u24 u44 | 3, 0, _, _ => kit_own iC0 tC0 u30 u00 | 3, 1, _, _ => kit_own iC1 tC1 u31 u11 | 3, 2, _, _ => kit_own iC2 tC2 u32 u22 | 3, 3, _, _ => kit_own iC3 tC3 u33 u33 | 3, 4, _, _ => kit_own iC4 tC4 u34 u44 | 4, 0, _, _ => kit_own iC0 tC0 u40 u00 | 4, 1, _, _ => kit_own iC1 tC1 u41 u11 | 4, 2, _, _ => kit_own iC2 tC2 u42 u22 | 4, 3, _, _ => kit_own iC3 tC3 u43 u33 | 4, 4, _, _ => kit_own iC4 tC4 u44 u44 | _ + 5, _, h, _ => absurd h (by omega) | _, _ + 5, _, h => absurd h (by omega), kiV := fun i hi => match i, hi with | 0, _ => kit_ve vC0 | 1, _ => kit_ve vC1 | 2, _ => kit_ve vC2 | 3, _ => kit_ve vC3 | 4, _ => kit_ve vC4 | _ + 5, h => absurd h (by omega), exC := fun i hi => match i, hi with | 0, _ => ⟨aC0, bC0, sC0, hC0, dC0, pC, qC, mC0⟩ | 1, _ => ⟨aC1, bC1, sC1, hC1, dC1, pC, qC, mC1⟩ | 2, _ => ⟨aC2, bC2, sC2, hC2, dC2, pC, qC, mC2⟩ | 3, _ => ⟨aC3, bC3, sC3, hC3, dC3, pC, qC, mC3⟩ | 4, _ => ⟨aC4, bC4, sC4, hC4, dC4, pC, qC, mC4⟩ | _ + 5, h => absurd h (by omega), g_PatternError := PySem.W.mg_of X G gC5, x_Unclosed := xC0, g_Unclosed := PySem.W.mg_of X G gC0, k_Unclosed := kC0, s_Unclosed := sC0, t_Unclosed := tC0, x_Unopened := xC1, g_Unopened := PySem.W.mg_of X G gC1, k_Unopened := kC1, s_Unopened := sC1, t_Unopened := tC1, x_NothingAhead := xC2, g_NothingAhead := PySem.W.mg_of X G gC2, k_NothingAhead := kC2, s_NothingAhead := sC2, t_NothingAhead := tC2, x_EmptyRound := xC3, g_EmptyRound := PySem.W.mg_of X G gC3, k_EmptyRound := kC3, s_EmptyRound := sC3, t_EmptyRound := tC3, x_TooDeep := xC4, g_TooDeep := PySem.W.mg_of X G gC4, k_TooDeep := kC4, s_TooDeep := sC4, t_TooDeep := tC4, a_p_takes := _, d_p_takes := _, F_p_takes := F0, m_p_takes := PySem.W.mg_of X G a0, b_p_takes := b0, a_p_bare := _, d_p_bare := _, F_p_bare := F1, m_p_bare := PySem.W.mg_of X G a1, b_p_bare := b1, a_p_row_of := _, d_p_row_of := _, F_p_row_of := F2, m_p_row_of := PySem.W.mg_of X G a2, b_p_row_of := b2, a_p_pick_of := _, d_p_pick_of := _, F_p_pick_of := F3, m_p_pick_of := PySem.W.mg_of X G a3, b_p_pick_of := b3, a_p_set_at := _, d_p_set_at := _, F_p_set_at := F4, m_p_set_at := PySem.W.mg_of X G a4, b_p_set_at := b4, a_p_piece_at := _, d_p_piece_at := _, F_p_piece_at := F5, m_p_piece_at := PySem.W.mg_of X G a5, b_p_piece_at := b5, a_p_repeated := _, d_p_repeated := _, F_p_repeated := F6, m_p_repeated := PySem.W.mg_of X G a6, b_p_repeated := b6, a_p_closed := _, d_p_closed := _, F_p_closed := F7, m_p_closed := PySem.W.mg_of X G a7, b_p_closed := b7, a_p_opened := _, d_p_opened := _, F_p_opened := F8, m_p_opened := PySem.W.mg_of X G a8, b_p_opened := b8, a_p_read := _, d_p_read := _, F_p_read := F9, m_p_read := PySem.W.mg_of X G a9, b_p_read := b9, a_p_parted := _, d_p_parted := _, F_p_parted := F10, m_p_parted := PySem.W.mg_of X G a10, b_p_parted := b10, a_p_picked := _, d_p_picked := _, F_p_picked := F11, m_p_picked := PySem.W.mg_of X G a11, b_p_picked := b11, a_p_built := _, d_p_built := _, F_p_built := F12, m_p_built := PySem.W.mg_of X G a12, b_p_built := b12, a_p_net_of := _, d_p_net_of := _, F_p_net_of := F13, m_p_net_of := PySem.W.mg_of X G a13, b_p_net_of := b13, a_p_led_in := _, d_p_led_in := _, F_p_led_in := F14, m_p_led_in := PySem.W.mg_of X G a14, b_p_led_in := b14, a_p_row_behind := _, d_p_row_behind := _, F_p_row_behind := F15, m_p_row_behind := PySem.W.mg_of X G a15, b_p_row_behind := b15, a_p_sweep := _, d_p_sweep := _, F_p_sweep := F16, m_p_sweep := PySem.W.mg_of X G a16, b_p_sweep := b16, a_p_swept := _, d_p_swept := _, F_p_swept := F17, m_p_swept := PySem.W.mg_of X G a17, b_p_swept := b17, a_p_first := _, d_p_first := _, F_p_first := F18, m_p_first := PySem.W.mg_of X G a18, b_p_first := b18, a_p_all_found := _, d_p_all_found := _, F_p_all_found := F19, m_p_all_found := PySem.W.mg_of X G a19, b_p_all_found := b19, a_l_cell_at := _, d_l_cell_at := _, F_l_cell_at := F20, m_l_cell_at := PySem.W.mg_of X G a20, b_l_cell_at := b20, a_l_sign_by := _, d_l_sign_by := _, F_l_sign_by := F21, m_l_sign_by := PySem.W.mg_of X G a21, b_l_sign_by := b21, a_l_three_by := _, d_l_three_by := _, F_l_three_by := F22, m_l_three_by := PySem.W.mg_of X G a22, b_l_three_by := b22, a_l_set_end := _, d_l_set_end := _, F_l_set_end := F23, m_l_set_end := PySem.W.mg_of X G a23, b_l_set_end := b23, a_l_closed := _, d_l_closed := _, F_l_closed := F24, m_l_closed := PySem.W.mg_of X G a24, b_l_closed := b24, a_l_grouped := _, d_l_grouped := _, F_l_grouped := F25, m_l_grouped := PySem.W.mg_of X G a25, b_l_grouped := b25, a_l_wrong_repeat := _, d_l_wrong_repeat := _, F_l_wrong_repeat := F26, m_l_wrong_repeat := PySem.W.mg_of X G a26, b_l_wrong_repeat := b26, a_l_due := _, d_l_due := _, F_l_due := F27, m_l_due := PySem.W.mg_of X G a27, b_l_due := b27, a_l_asked := _, d_l_asked := _, F_l_asked := F28, m_l_asked := PySem.W.mg_of X G a28, b_l_asked := b28, a_l_refusal := _, d_l_refusal := _, F_l_refusal := F29, m_l_refusal := PySem.W.mg_of X G a29, b_l_refusal := b29, a_l_one_class := _, d_l_one_class := _, F_l_one_class := F30, m_l_one_class := PySem.W.mg_of X G a30, b_l_one_class := b30, a_l_piece_by := _, d_l_piece_by := _, F_l_piece_by := F31, m_l_piece_by := PySem.W.mg_of X G a31, b_l_piece_by := b31, a_l_law := _, d_l_law := _, F_l_law := F32, m_l_law := PySem.W.mg_of X G a32, b_l_law := b32, n_ValueError := PySem.W.mg_none_of X G z_ValueError, n_all := PySem.W.mg_none_of X G z_all, n_any := PySem.W.mg_none_of X G z_any, n_isinstance := PySem.W.mg_none_of X G z_isinstance, n_len := PySem.W.mg_none_of X G z_len, n_list := PySem.W.mg_none_of X G z_list, n_max := PySem.W.mg_none_of X G z_max, n_range := PySem.W.mg_none_of X G z_range, n_reversed := PySem.W.mg_none_of X G z_reversed, n_str := PySem.W.mg_none_of X G z_str, n_tuple := PySem.W.mg_none_of X G z_tuple, t_DEEPEST := _, c_DEEPEST := PySem.W.mg_of X G y_DEEPEST }
  refine ⟨PySem.W.fnOf "law" "law" (defArgs s_l_law) (defBody s_l_law) (defScope s_l_law) .none kV32 dc32 pm32 an32 cd32 ct32, fun s v => .of_eq rfl, fun base _ _ => ?_⟩
  exact (ok_l_law (P := l.prog) (w := w) (base := base) T).imp (law_sp main)
end Wk
open PySem PySem.W PyProof.Rows
set_option maxRecDepth 100000 in
set_option maxHeartbeats 0 in
theorem PySem.Challenge.cw_patternback_k06_refused_holds : PySem.Challenge.rw_patternback_k06_refused.Holds := by
  w_on; o_law; k_head; (case hw => w_witness2)
  k_fill
  refine L2.walk_of (l := PySem.Challenge.rw_patternback_k06_refused) (n := 63) (k := 206) (x := "_law_script") (CX := fun _ => L2.CX0) (sp := fun w => Wk.spLaw _) rfl (by decide) rfl ⟨rfl, by decide, by decide⟩ (fun w h Y => PySem.W.kIn_of Y) ?F (fun _ _ a ns hl _ hS => ⟨a, ns, rfl, hS, hl, fun _ => rfl⟩) (fun _ _ _ _ _ h => h)
  case F =>
    intro w mg fa h KX G hmg
    refine' Wk.all_mk KX G hmg Mt.main ?a0 ?l0 ?c0 ?k0 ?a1 ?l1 ?c1 ?k1 ?a2 ?l2 ?c2 ?k2 ?a3 ?l3 ?c3 ?k3 ?a4 ?l4 ?c4 ?k4 ?a5 ?l5 ?c5 ?k5 ?a6 ?l6 ?c6 ?k6 ?a7 ?l7 ?c7 ?k7 ?a8 ?l8 ?c8 ?k8 ?a9 ?l9 ?c9 ?k9 ?a10 ?l10 ?c10 ?k10 ?a11 ?l11 ?c11 ?k11 ?a12 ?l12 ?c12 ?k12 ?a13 ?l13 ?c13 ?k13 ?a14 ?l14 ?c14 ?k14 ?a15 ?l15 ?c15 ?k15 ?a16 ?l16 ?c16 ?k16 ?a17 ?l17 ?c17 ?k17 ?a18 ?l18 ?c18 ?k18 ?a19 ?l19 ?c19 ?k19 ?a20 ?l20 ?c20 ?k20 ?a21 ?l21 ?c21 ?k21 ?a22 ?l22 ?c22 ?k22 ?a23 ?l23 ?c23 ?k23 ?a24 ?l24 ?c24 ?k24 ?a25 ?l25 ?c25 ?k25 ?a26 ?l26 ?c26 ?k26 ?a27 ?l27 ?c27 ?k27 ?a28 ?l28 ?c28 ?k28 ?a29 ?l29 ?c29 ?k29 ?a30 ?l30 ?c30 ?k30 ?a31 ?l31 ?c31 ?k31 ?a32 ?l32 ?c32 ?k32 ?z_ValueError ?z_all ?z_any ?z_isinstance ?z_len ?z_list ?z_max ?z_range ?z_reversed ?z_str ?z_tuple ?y_DEEPEST ?gC0 ?sC0 ?tC0 ?iC0 ?hC0 ?gC1 ?sC1 ?tC1 ?iC1 ?hC1 ?gC2 ?sC2 ?tC2 ?iC2 ?hC2 ?gC3 ?sC3 ?tC3 ?iC3 ?hC3 ?gC4 ?sC4 ?tC4 ?iC4 ?hC4 ?gC5 ?sC5 ?tC5 ?iC5 ?hC5 ?xC0 ?kC0 ?vC0 ?aC0 ?bC0 ?dC0 ?mC0 ?u00 ?u01 ?u02 ?u03 ?u04 ?u05 ?xC1 ?kC1 ?vC1 ?aC1 ?bC1 ?dC1 ?mC1 ?u10 ?u11 ?u12 ?u13 ?u14 ?u15 ?xC2 ?kC2 ?vC2 ?aC2 ?bC2 ?dC2 ?mC2 ?u20 ?u21 ?u22 ?u23 ?u24 ?u25 ?xC3 ?kC3 ?vC3 ?aC3 ?bC3 ?dC3 ?mC3 ?u30 ?u31 ?u32 ?u33 ?u34 ?u35 ?xC4 ?kC4 ?vC4 ?aC4 ?bC4 ?dC4 ?mC4 ?u40 ?u41 ?u42 ?u43 ?u44 ?u45 ?pC ?qC
    (case a0 => k_is)
    (case l0 => k_is)
    (case c0 => k_is)
    (case k0 => k_is)
    (case a1 => k_is)
    (case l1 => k_is)
    (case c1 => k_is)
    (case k1 => k_is)
    (case a2 => k_is)
    (case l2 => k_is)
    (case c2 => k_is)
    (case k2 => k_is)
    (case a3 => k_is)
    (case l3 => k_is)
    (case c3 => k_is)
    (case k3 => k_is)
    (case a4 => k_is)
    (case l4 => k_is)
    (case c4 => k_is)
    (case k4 => k_is)
    (case a5 => k_is)
    (case l5 => k_is)
    (case c5 => k_is)
    (case k5 => k_is)
    (case a6 => k_is)
    (case l6 => k_is)
    (case c6 => k_is)
    (case k6 => k_is)
    (case a7 => k_is)
    (case l7 => k_is)
    (case c7 => k_is)
    (case k7 => k_is)
    (case a8 => k_is)
    (case l8 => k_is)
    (case c8 => k_is)
    (case k8 => k_is)
    (case a9 => k_is)
    (case l9 => k_is)
    (case c9 => k_is)
    (case k9 => k_is)
    (case a10 => k_is)
    (case l10 => k_is)
    (case c10 => k_is)
    (case k10 => k_is)
    (case a11 => k_is)
    (case l11 => k_is)
    (case c11 => k_is)
    (case k11 => k_is)
    (case a12 => k_is)
    (case l12 => k_is)
    (case c12 => k_is)
    (case k12 => k_is)
    (case a13 => k_is)
    (case l13 => k_is)
    (case c13 => k_is)
    (case k13 => k_is)
    (case a14 => k_is)
    (case l14 => k_is)
    (case c14 => k_is)
    (case k14 => k_is)
    (case a15 => k_is)
    (case l15 => k_is)
    (case c15 => k_is)
    (case k15 => k_is)
    (case a16 => k_is)
    (case l16 => k_is)
    (case c16 => k_is)
    (case k16 => k_is)
    (case a17 => k_is)
    (case l17 => k_is)
    (case c17 => k_is)
    (case k17 => k_is)
    (case a18 => k_is)
    (case l18 => k_is)
    (case c18 => k_is)
    (case k18 => k_is)
    (case a19 => k_is)
    (case l19 => k_is)
    (case c19 => k_is)
    (case k19 => k_is)
    (case a20 => k_is)
    (case l20 => k_is)
    (case c20 => k_is)
    (case k20 => k_is)
    (case a21 => k_is)
    (case l21 => k_is)
    (case c21 => k_is)
    (case k21 => k_is)
    (case a22 => k_is)
    (case l22 => k_is)
    (case c22 => k_is)
    (case k22 => k_is)
    (case a23 => k_is)
    (case l23 => k_is)
    (case c23 => k_is)
    (case k23 => k_is)
    (case a24 => k_is)
    (case l24 => k_is)
    (case c24 => k_is)
    (case k24 => k_is)
    (case a25 => k_is)
    (case l25 => k_is)
    (case c25 => k_is)
    (case k25 => k_is)
    (case a26 => k_is)
    (case l26 => k_is)
    (case c26 => k_is)
    (case k26 => k_is)
    (case a27 => k_is)
    (case l27 => k_is)
    (case c27 => k_is)
    (case k27 => k_is)
    (case a28 => k_is)
    (case l28 => k_is)
    (case c28 => k_is)
    (case k28 => k_is)
    (case a29 => k_is)
    (case l29 => k_is)
    (case c29 => k_is)
    (case k29 => k_is)
    (case a30 => k_is)
    (case l30 => k_is)
    (case c30 => k_is)
    (case k30 => k_is)
    (case a31 => k_is)
    (case l31 => k_is)
    (case c31 => k_is)
    (case k31 => k_is)
    (case a32 => k_is)
    (case l32 => k_is)
    (case c32 => k_is)
    (case k32 => k_is)
    (case z_ValueError => k_is)
    (case z_all => k_is)
    (case z_any => k_is)
    (case z_isinstance => k_is)
    (case z_len => k_is)
    (case z_list => k_is)
    (case z_max => k_is)
    (case z_range => k_is)
    (case z_reversed => k_is)
    (case z_str => k_is)
    (case z_tuple => k_is)
    (case y_DEEPEST => k_is)
    (case gC0 => k_is)
    (case sC0 => k_is)
    (case tC0 => k_is)
    (case iC0 => k_is)
    (case hC0 => k_is)
    (case gC1 => k_is)
    (case sC1 => k_is)
    (case tC1 => k_is)
    (case iC1 => k_is)
    (case hC1 => k_is)
    (case gC2 => k_is)
    (case sC2 => k_is)
    (case tC2 => k_is)
    (case iC2 => k_is)
    (case hC2 => k_is)
    (case gC3 => k_is)
    (case sC3 => k_is)
    (case tC3 => k_is)
    (case iC3 => k_is)
    (case hC3 => k_is)
    (case gC4 => k_is)
    (case sC4 => k_is)
    (case tC4 => k_is)
    (case iC4 => k_is)
    (case hC4 => k_is)
    (case gC5 => k_is)
    (case sC5 => k_is)
    (case tC5 => k_is)
    (case iC5 => k_is)
    (case hC5 => k_is)
    (case xC0 => k_exc)
    (case kC0 => k_is)
    (case vC0 => k_is)
    (case aC0 => k_is)
    (case bC0 => k_is)
    (case dC0 => k_is)
    (case mC0 => k_is)
    (case u00 => first | rfl | k_is)
    (case u01 => first | rfl | k_is)
    (case u02 => first | rfl | k_is)
    (case u03 => first | rfl | k_is)
    (case u04 => first | rfl | k_is)
    (case u05 => first | rfl | k_is)
    (case xC1 => k_exc)
    (case kC1 => k_is)
    (case vC1 => k_is)
    (case aC1 => k_is)
    (case bC1 => k_is)
    (case dC1 => k_is)
    (case mC1 => k_is)
    (case u10 => first | rfl | k_is)
    (case u11 => first | rfl | k_is)
    (case u12 => first | rfl | k_is)
    (case u13 => first | rfl | k_is)
    (case u14 => first | rfl | k_is)
    (case u15 => first | rfl | k_is)
    (case xC2 => k_exc)
    (case kC2 => k_is)
    (case vC2 => k_is)
    (case aC2 => k_is)
    (case bC2 => k_is)
    (case dC2 => k_is)
    (case mC2 => k_is)
    (case u20 => first | rfl | k_is)
    (case u21 => first | rfl | k_is)
    (case u22 => first | rfl | k_is)
    (case u23 => first | rfl | k_is)
    (case u24 => first | rfl | k_is)
    (case u25 => first | rfl | k_is)
    (case xC3 => k_exc)
    (case kC3 => k_is)
    (case vC3 => k_is)
    (case aC3 => k_is)
    (case bC3 => k_is)
    (case dC3 => k_is)
    (case mC3 => k_is)
    (case u30 => first | rfl | k_is)
    (case u31 => first | rfl | k_is)
    (case u32 => first | rfl | k_is)
    (case u33 => first | rfl | k_is)
    (case u34 => first | rfl | k_is)
    (case u35 => first | rfl | k_is)
    (case xC4 => k_exc)
    (case kC4 => k_is)
    (case vC4 => k_is)
    (case aC4 => k_is)
    (case bC4 => k_is)
    (case dC4 => k_is)
    (case mC4 => k_is)
    (case u40 => first | rfl | k_is)
    (case u41 => first | rfl | k_is)
    (case u42 => first | rfl | k_is)
    (case u43 => first | rfl | k_is)
    (case u44 => first | rfl | k_is)
    (case u45 => first | rfl | k_is)
    (case pC => k_is)
    (case qC => k_is)
#print axioms PySem.Challenge.cw_patternback_k06_refused_holds
