import PyProof.Rows.All
import Wide.All
import OpenK.AllK
import Wide.FinOn
import PyProof.EqLayable
import HandS.ForMost
import HandS.Exc
import HandS.ExcOwn
import HandS.CallSlots
import HandS.Defaults
import HandS.Flow
import HandS.Zip
import HandS.Conv
import KE.KDictKeyed
import KE.KDictList
import HandS.TupAny
import HandS.TupLe
import HandS.Deep
import HandS.SortInts
import HandS.IsInst
import HandS.Star
import KE.GoesMore
import KE.GoesEnum
import HandS.Property
import HandS.TryOnly
import HandS.Strs
import HandS.SetFor
import HandS.Style
import HandS.Ends
import HandS.Head0
import HandS.Head1
import HandS.Head2
import HandS.HeadEnd
import HandS.HeadHook1
import HandS.HeadHook2
import PyProof.TableCode
import PySem.Challenge.RW_prefilled_k16_whole_forms
set_option Elab.async false
set_option linter.all false
set_option maxRecDepth 100000
/-! EV 0: an evaluator over numbered slots. Values are trees (tuples, and lists, dicts, instances that are not changed any more); what a def still changes lies at numbered places. -/
namespace EV
open PySem

inductive D where
  | non | bl (b : Bool) | int (i : Int) | str (x : Str) | tup (xs : List D) | loc (n : Nat) | ty (n : String) | glo (x : Str)
  | lst (xs : List D) | dic (ks vs : List D) | obj (c : Str) (ns : List Str) (vs : List D)

inductive O where
  | lst (xs : List D)
  | dic (kvs : List (D × D))
  | ins (c : Str) (fs : List (Str × D))

abbrev Hs := List O
abbrev Lc := List (Option D)

inductive R (α : Type) where
  | ok (a : α) (h : Hs)
  | exc (c : Str) (x : Option D) (h : Hs)
  | bad

def R.bind {α β : Type} : R α → (α → Hs → R β) → R β
  | .ok a h, f => f a h
  | .exc c x h, _ => .exc c x h
  | .bad, _ => .bad

/-! ### equality of trees -/
mutual
def D.beq : D → D → Bool
  | .non, .non => true
  | .bl a, .bl b => a == b
  | .int i, .int j => decide (i = j)
  | .str x, .str y => decide (x = y)
  | .tup xs, .tup ys => D.beqs xs ys
  | .loc m, .loc n => Nat.beq m n
  | .ty m, .ty n => decide (m = n)
  | .glo x, .glo y => decide (x = y)
  | .lst xs, .lst ys => D.beqs xs ys
  | .dic ks vs, .dic js us => D.beqs ks js && D.beqs vs us
  | .obj c ns vs, .obj d ms us => decide (c = d) && decide (ns = ms) && D.beqs vs us
  | _, _ => false
def D.beqs : List D → List D → Bool
  | [], [] => true
  | x :: xs, y :: ys => D.beq x y && D.beqs xs ys
  | _, _ => false
end
mutual
theorem D.beq_refl : ∀ d : D, D.beq d d = true
  | .non => rfl
  | .bl b => by simp [D.beq]
  | .int i => by simp [D.beq]
  | .str x => by simp [D.beq]
  | .tup xs => by simpa [D.beq] using D.beqs_refl xs
  | .loc n => by simp [D.beq]
  | .ty n => by simp [D.beq]
  | .glo x => by simp [D.beq]
  | .lst xs => by simpa [D.beq] using D.beqs_refl xs
  | .dic ks vs => by simp [D.beq, D.beqs_refl ks, D.beqs_refl vs]
  | .obj c ns vs => by simp [D.beq, D.beqs_refl vs]
theorem D.beqs_refl : ∀ ds : List D, D.beqs ds ds = true
  | [] => rfl
  | d :: ds => by simp [D.beqs, D.beq_refl d, D.beqs_refl ds]
end
mutual
theorem D.beq_eq : ∀ {d e : D}, D.beq d e = true → d = e
  | .non, e, h => by cases e <;> simp [D.beq] at h ⊢
  | .bl b, e, h => by cases e <;> simp [D.beq] at h ⊢; exact h
  | .int i, e, h => by cases e <;> simp [D.beq] at h ⊢; exact h
  | .str x, e, h => by cases e <;> simp [D.beq] at h ⊢; exact h
  | .tup xs, e, h => by
    cases e <;> simp [D.beq] at h ⊢
    exact D.beqs_eq h
  | .loc n, e, h => by cases e <;> simp [D.beq] at h ⊢; exact h
  | .ty n, e, h => by cases e <;> simp [D.beq] at h ⊢; exact h
  | .glo x, e, h => by cases e <;> simp [D.beq] at h ⊢; exact h
  | .lst xs, e, h => by
    cases e <;> simp [D.beq] at h ⊢
    exact D.beqs_eq h
  | .dic ks vs, e, h => by
    cases e <;> simp [D.beq] at h ⊢
    exact ⟨D.beqs_eq h.1, D.beqs_eq h.2⟩
  | .obj c ns vs, e, h => by
    cases e <;> simp [D.beq] at h ⊢
    exact ⟨h.1.1, h.1.2, D.beqs_eq h.2⟩
theorem D.beqs_eq : ∀ {ds es : List D}, D.beqs ds es = true → ds = es
  | [], es, h => by cases es <;> simp [D.beqs] at h ⊢
  | d :: ds, es, h => by
    cases es with
    | nil => simp [D.beqs] at h
    | cons e es =>
      simp [D.beqs] at h
      rw [D.beq_eq h.1, D.beqs_eq h.2]
end

/-! ### places below a bound -/
mutual
def D.undr (n : Nat) : D → Bool
  | .loc m => Nat.blt m n
  | .tup xs => D.undrs n xs
  | .lst xs => D.undrs n xs
  | .dic _ vs => D.undrs n vs
  | .obj _ _ vs => D.undrs n vs
  | _ => true
def D.undrs (n : Nat) : List D → Bool
  | [] => true
  | x :: xs => D.undr n x && D.undrs n xs
end
def O.undr (n : Nat) : O → Bool
  | .lst xs => D.undrs n xs
  | .dic kvs => D.undrs n (kvs.map (·.2))
  | .ins _ fs => D.undrs n (fs.map (·.2))
/-! ### what lies at a place, as a tree -/
mutual
def frz (res : Nat → Option D) : D → Option D
  | .loc m => res m
  | .tup xs => (match frzs res xs with
    | some ys => some (.tup ys)
    | none => none)
  | .lst xs => (match frzs res xs with
    | some ys => some (.lst ys)
    | none => none)
  | .dic ks vs => (match frzs res vs with
    | some ys => some (.dic ks ys)
    | none => none)
  | .obj c ns vs => (match frzs res vs with
    | some ys => some (.obj c ns ys)
    | none => none)
  | d => some d
def frzs (res : Nat → Option D) : List D → Option (List D)
  | [] => some []
  | x :: xs => (match frz res x with
    | some y => (match frzs res xs with
      | some ys => some (y :: ys)
      | none => none)
    | none => none)
end
/-- places from n on -/
def resF (h : Hs) (n : Nat) : Nat → Nat → Option D
  | 0, _ => none
  | f + 1, m => if Nat.blt m n then some (.loc m) else (match h[m]? with
    | some (.lst xs) => (match frzs (resF h n f) xs with
      | some ys => some (.lst ys)
      | none => none)
    | some (.dic kvs) => (match frzs (resF h n f) (kvs.map (·.2)) with
      | some ys => some (.dic (kvs.map (·.1)) ys)
      | none => none)
    | some (.ins c fs) => (match frzs (resF h n f) (fs.map (·.2)) with
      | some ys => some (.obj c (fs.map (·.1)) ys)
      | none => none)
    | none => none)
/-- a def hands back d: what it made is not changed any more -/
def done (n : Nat) (d : D) (h : Hs) : R D := match frz (resF h n 4) d with
  | some d' => if (h.take n).all (O.undr n) then .ok d' (h.take n) else .bad
  | none => .bad

/-! ### trees as data of the library, for == -/
mutual
def pyOf (res : Nat → Option PyData) : D → Option PyData
  | .non => some .none
  | .bl b => some (.bool b)
  | .int i => some (.int i)
  | .str x => some (.str x)
  | .tup xs => (pysOf res xs).map .tuple
  | .lst xs => (pysOf res xs).map .list
  | .loc n => res n
  | _ => none
def pysOf (res : Nat → Option PyData) : List D → Option (List PyData)
  | [] => some []
  | x :: xs => match pyOf res x with
    | some p => (match pysOf res xs with
      | some ps => some (p :: ps)
      | none => none)
    | none => none
end
def resN (h : Hs) : Nat → Nat → Option PyData
  | 0, _ => none
  | f + 1, n => match h[n]? with
    | some (.lst xs) => (pysOf (resN h f) xs).map .list
    | _ => none
def toP (h : Hs) (d : D) : Option PyData := pyOf (resN h 4) d

/-! ### truth, equality, membership -/
def lim : Nat := 16777216
/-- a list's items -/
def lstI (h : Hs) : D → Option (List D)
  | .lst xs => some xs
  | .loc n => (match h[n]? with
    | some (.lst xs) => some xs
    | _ => none)
  | _ => none
/-- the items of a list or a tuple -/
def items (h : Hs) : D → Option (List D)
  | .tup xs => some xs
  | d => lstI h d
/-- a dict's pairs -/
def dicI (h : Hs) : D → Option (List (D × D))
  | .dic ks vs => some (ks.zip vs)
  | .loc n => (match h[n]? with
    | some (.dic kvs) => some kvs
    | _ => none)
  | _ => none
def truthy (h : Hs) : D → Option Bool
  | .non => some false
  | .bl b => some b
  | .int i => some (i != 0)
  | .str x => if Nat.ble x.length lim then some (x.length != 0) else none
  | d => (match items h d with
    | some xs => some (!xs.isEmpty)
    | none => none)
/-- a flat value: no place, no tuple -/
def flat : D → Bool
  | .non => true
  | .bl _ => true
  | .int _ => true
  | .str _ => true
  | _ => false
/-- == of flat values -/
def feq : D → D → Bool
  | .non, .non => true
  | .bl a, .bl b => a == b
  | .bl a, .int j => (if a then 1 else 0) == j
  | .int i, .bl b => i == (if b then 1 else 0)
  | .int i, .int j => i == j
  | .str x, .str y => x == y
  | _, _ => false
def opEq (h : Hs) (a b : D) : Option Bool :=
  if flat a && flat b then some (feq a b) else
  match toP h a, toP h b with
  | some p, some q => if SeqAt.shaped p && SeqAt.shaped q then some (PyData.eqv p q) else none
  | _, _ => none
def flatK (kvs : List (D × D)) : Bool := kvs.all fun q => flat q.1
def opIn (h : Hs) (a b : D) : Option Bool :=
  match items h b with
  | some xs => if flat a && xs.all flat then some (xs.any fun x => feq x a) else
    (match toP h a, toP h b with
    | some p, some (.list qs) => if SeqAt.shaped p && SeqAt.shaped (.list qs) then some (qs.any fun q => PyData.eqv q p) else none
    | _, _ => none)
  | none => (match dicI h b with
    | some kvs => if flat a && flatK kvs then some (kvs.any fun q => feq q.1 a) else none
    | none => none)

/-! ### operators -/
def cmulB (i j : Int) : Bool := (decide (-(2 ^ 64) < i) && decide (i < 2 ^ 64)) || (decide (-(2 ^ 64) < j) && decide (j < 2 ^ 64))
/-- m: at a place -/
def newL (m : Bool) (xs : List D) (h : Hs) : R D := if Nat.ble xs.length lim then (match m with
  | true => .ok (.loc h.length) (h ++ [.lst xs])
  | false => .ok (.lst xs) h) else .bad
def newT (xs : List D) (h : Hs) : R D := if Nat.ble xs.length lim then .ok (.tup xs) h else .bad
def opBin (op : Operator) (a b : D) (h : Hs) : R D :=
  match op with
  | .Add => (match a, b with
    | .int i, .int j => .ok (.int (i + j)) h
    | .tup xs, .tup ys => newT (xs ++ ys) h
    | .str x, .str y => if Nat.ble (x.length + y.length) lim then .ok (.str (x ++ y)) h else .bad
    | a, b => (match lstI h a, lstI h b with
      | some xs, some ys => newL false (xs ++ ys) h
      | _, _ => .bad))
  | .Sub => (match a, b with
    | .int i, .int j => .ok (.int (i - j)) h
    | _, _ => .bad)
  | .Mult => (match a, b with
    | .int i, .int j => if cmulB i j then .ok (.int (i * j)) h else .bad
    | _, _ => .bad)
  | .FloorDiv => (match a, b with
    | .int i, .int j => if decide (0 < j) && decide (j < 1073741824) then .ok (.int (i / j)) h else .bad
    | _, _ => .bad)
  | .Mod => (match a, b with
    | .int i, .int j => if decide (0 < j) then .ok (.int (i % j)) h else .bad
    | _, _ => .bad)
  | .Pow => (match a, b with
    | .int i, .int j => if decide (0 ≤ j) && decide (j ≤ 1000000) && decide (i.natAbs < 2 ^ 64) then .ok (.int (i ^ j.toNat)) h else .bad
    | _, _ => .bad)
  | _ => .bad
def optB (o : Option Bool) (h : Hs) : R D := match o with
  | some b => .ok (.bl b) h
  | none => .bad
def cmpI (f : Int → Int → Bool) (a b : D) (h : Hs) : R D := match a, b with
  | .int i, .int j => .ok (.bl (f i j)) h
  | _, _ => .bad
def isNon : D → Bool
  | .non => true
  | _ => false
def opCmp (op : CmpOp) (a b : D) (h : Hs) : R D :=
  match op with
  | .Eq => optB (opEq h a b) h
  | .NotEq => optB ((opEq h a b).map not) h
  | .Lt => cmpI (fun i j => decide (i < j)) a b h
  | .LtE => cmpI (fun i j => decide (i ≤ j)) a b h
  | .Gt => cmpI (fun i j => decide (j < i)) a b h
  | .GtE => cmpI (fun i j => decide (j ≤ i)) a b h
  | .Is => (match b with
    | .non => .ok (.bl (isNon a)) h
    | _ => .bad)
  | .IsNot => (match b with
    | .non => .ok (.bl (!isNon a)) h
    | _ => .bad)
  | .In => optB (opIn h a b) h
  | .NotIn => optB ((opIn h a b).map not) h

/-! ### subscripts, slices -/
def ixN (n : Nat) (i : Int) : Option Nat := if 0 ≤ i then (if i < n then some i.toNat else none) else if -(n : Int) ≤ i then some (i + n).toNat else none
def atI (xs : List D) (i : Int) : Option D := match ixN xs.length i with
  | some j => xs[j]?
  | none => none
def optD (o : Option D) (h : Hs) : R D := match o with
  | some d => .ok d h
  | none => .bad
def kvFind (a : D) : List (D × D) → Option D
  | [] => none
  | (k, v) :: r => if feq k a then some v else kvFind a r
def kvPut (a v : D) (kvs : List (D × D)) : List (D × D) := if (kvs.any fun q => feq q.1 a) = true then kvs.map (fun q => if feq q.1 a = true then (q.1, v) else q) else kvs ++ [(a, v)]
def opSub (a b : D) (h : Hs) : R D :=
  match items h a with
  | some xs => (match b with
    | .int i => optD (atI xs i) h
    | _ => .bad)
  | none => (match dicI h a with
    | some kvs => if flat b && flatK kvs then optD (kvFind b kvs) h else .bad
    | none => .bad)
def ixOf (d : D) : Option (Option Int) := match d with
  | .non => some none
  | .int i => some (some i)
  | _ => none
/-- where a slice's end lies -/
def sIx (n d : Nat) : Option Int → Nat
  | none => d
  | some v => if v < 0 then (v + (n : Int)).toNat else min v.toNat n
def cutD (xs : List D) (lo hi : Option Int) : List D := (xs.drop (sIx xs.length 0 lo)).take (sIx xs.length xs.length hi - sIx xs.length 0 lo)
def opSlc (a lo hi : D) (h : Hs) : R D :=
  match ixOf lo, ixOf hi with
  | some l, some u => (match a with
    | .tup xs => .ok (.tup (cutD xs l u)) h
    | a => (match lstI h a with
      | some xs => .ok (.lst (cutD xs l u)) h
      | none => .bad))
  | _, _ => .bad

/-! ### code -/
/-- what is stored into: a name, a flat tuple of names -/
inductive Tg where
  | name (i : Nat)
  | tup (ts : List Nat)
inductive B where
  | len | int | isi | all | any | tuple | list | listM | sorted | sum | max | min
inductive M where
  | append | extend | get
mutual
inductive C where
  | var (i : Nat) | cint (i : Int) | cbl (b : Bool) | cnon | cstr (x : Str)
  | glo (i : Nat)
  | tyv (n : String)
  | bin (op : Operator) (a b : C) | neg (a : C)
  | cmp (op : CmpOp) (a b : C)
  | chain (op op2 : CmpOp) (a b c : C)
  | and (a b : C) | or (a b : C) | not (a : C)
  | ife (t a b : C)
  | tup (es : Cs) | lst (m : Bool) (es : Cs) | dnew
  | call (f : Nat) (sh : Nat) (es : Cs) (ks : Cs)
  | blt (f : B) (es : Cs)
  | met (o : C) (m : M) (es : Cs)
  | dvals (o : C)
  | sub (o i : C)
  | slc (o lo hi : C)
  | no
  | bad
  | srt (e : C)
  | rep (es : Cs) (j : Nat)
  | att (o : C) (f : Str)
  | new (c sh : Nat) (es ks : Cs)
  | olen (o : C)
  | oin (a o : C)
  | isO (e : C) (c : Nat)
  | lc (m : Bool) (vs : List Nat) (tg : Tg) (it : It) (ifs : Cs) (e : C)
  | lc2 (m : Bool) (vs vs1 : List Nat) (tg : Tg) (it : It) (ifs : Cs) (tg1 : Tg) (it1 : It) (ifs1 : Cs) (e : C)
inductive Cs where
  | nil
  | cons (e : C) (r : Cs)
  | star (e : C) (r : Cs)
inductive It where
  | of (e : C)
  | rng (es : Cs)
  | enum (e : C)
  | zip (a b : C)
end
mutual
inductive S where
  | expr (e : C)
  | asg (tg : Tg) (e : C)
  | par (ts : List Nat) (es : Cs)
  | sset (o i e : C)
  | fset (o : C) (f : Str) (e : C)
  | raise (c : Nat)
  | tryC (b : Ss) (c : Nat) (e : C)
  | aug (op : Operator) (i : Nat) (e : C)
  | ret (e : C) | retN
  | ife (t : C) (a b : Ss)
  | whl (t : C) (b : Ss)
  | «for» (tg : Tg) (it : It) (b : Ss)
  | never
  | pass | brk | cont
inductive Ss where
  | nil
  | cons (s : S) (r : Ss)
end
/-- where a parameter's value comes from -/
inductive Slp (α : Type) where
  | pos (j : Nat) | kw (j : Nat) | dfl (d : α)
abbrev Sl := Slp D
structure Fn where
  np : Nat
  nn : Nat
  body : Ss
/-- an own class: its name, its __init__, its properties, its special methods, the names of fields, the own classes that it is one of -/
structure Cl where
  nm : Str
  init : Option Nat
  props : List (Str × Nat)
  meths : List (Str × Nat)
  flds : List Str
  sup : List Str
  exc : Bool
/-- what the code stands in: the module's values, the shapes of calls, the defs, the classes -/
structure Ev where
  G : List D
  shs : List (List Sl)
  call : Nat → List D → Hs → R D
  wf : Nat
  cs : List Cl
  ab : List Nat

def isNo : C → Bool
  | .no => true
  | _ => false
/-! ### pieces -/
def setTg (tg : Tg) (d : D) (L : Lc) : Option Lc := match tg with
  | .name i => some (L.set i (some d))
  | .tup ts => (match d with
    | .tup xs => if Nat.beq xs.length ts.length then some ((ts.zip xs).foldl (fun L p => L.set p.1 (some p.2)) L) else none
    | _ => none)
def wipeL : List Nat → Lc → Lc
  | [], L => L
  | v :: vs, L => (wipeL vs L).set v none
/-- what a loop goes through; what must stay as it is meanwhile -/
structure Src where
  xs : List D
  g : List (Nat × List D)
def chkG (h : Hs) (g : List (Nat × List D)) : Bool := g.all fun q => (match h[q.1]? with
  | some (.lst ys) => D.beqs ys q.2
  | _ => false)
def chk (s : Src) (h : Hs) : Bool := chkG h s.g
/-- what must stay while a list is walked -/
def grd (d : D) (xs : List D) : List (Nat × List D) := match d with
  | .loc n => [(n, xs)]
  | _ => []
def srcOf (d : D) (h : Hs) (f : List D → List D) : R Src := match items h d with
  | some xs => .ok ⟨f xs, grd d xs⟩ h
  | none => .bad
def rangeD (lo : Int) : Nat → List D
  | 0 => []
  | n + 1 => .int lo :: rangeD (lo + 1) n
def enumD (i : Int) : List D → List D
  | [] => []
  | x :: xs => .tup [.int i, x] :: enumD (i + 1) xs
def zipD : List D → List D → List D
  | x :: xs, y :: ys => .tup [x, y] :: zipD xs ys
  | _, _ => []
def small (i : Int) : Bool := decide (-(2 ^ 62) ≤ i) && decide (i < 2 ^ 62)
def rngOf (ds : List D) (h : Hs) : R Src := match ds with
  | [.int j] => if small j then .ok ⟨rangeD 0 j.toNat, []⟩ h else .bad
  | [.int i, .int j] => if small i && small j then .ok ⟨rangeD i (j - i).toNat, []⟩ h else .bad
  | _ => .bad
def zipOf (a b : D) (h : Hs) : R Src := match a, b with
  | .tup xs, .tup ys => .ok ⟨zipD xs ys, []⟩ h
  | a, b => (match lstI h a, lstI h b with
    | some xs, some ys => .ok ⟨zipD xs ys, grd a xs ++ grd b ys⟩ h
    | _, _ => .bad)
def strip {α : Type} : R α → R α
  | .exc _ _ _ => .bad
  | x => x
def lcLoop (s : Src) (step : D → Hs → R (Option D)) : List D → Hs → R (List D)
  | [], h => if chk s h then .ok [] h else .bad
  | d :: r, h => if chk s h then (strip (step d h)).bind fun o h1 => (lcLoop s step r h1).bind fun ys h2 => .ok (o.toList ++ ys) h2 else .bad

/-! ### built-ins -/
def intsOf : List D → Option (List Int)
  | [] => some []
  | d :: ds => match d with
    | .int i => (match intsOf ds with
      | some is => some (i :: is)
      | none => none)
    | _ => none
def insI (i : Int) : List Int → List Int
  | [] => [i]
  | j :: js => if i ≤ j then i :: j :: js else j :: insI i js
def sortI : List Int → List Int
  | [] => []
  | i :: is => insI i (sortI is)
def blsOf : List D → Option (List Bool)
  | [] => some []
  | d :: ds => match d with
    | .bl b => (match blsOf ds with
      | some bs => some (b :: bs)
      | none => none)
    | _ => none
def isLst (h : Hs) (d : D) : Bool := (lstI h d).isSome
def tyB (h : Hs) (d : D) (t : String) : Option Bool := match d with
  | .non => some (t == "NoneType")
  | .bl _ => some (t == "bool" || t == "int")
  | .int _ => some (t == "int")
  | .str _ => some (t == "str")
  | .tup _ => some (t == "tuple")
  | d => (match lstI h d with
    | some _ => some (t == "list")
    | none => none)
def tyOk (t : String) : Bool := t == "int" || t == "bool" || t == "str" || t == "tuple" || t == "list" || t == "dict"
def callB (f : B) (ds : List D) (h : Hs) : R D := match f with
  | .len => (match ds with
    | [d] => (match items h d with
      | some xs => .ok (.int xs.length) h
      | none => (match dicI h d with
        | some kvs => .ok (.int kvs.length) h
        | none => .bad))
    | _ => .bad)
  | .int => (match ds with
    | [.int i] => .ok (.int i) h
    | [.bl b] => .ok (.int (if b then 1 else 0)) h
    | _ => .bad)
  | .isi => (match ds with
    | [d, .ty t] => if tyOk t then optB (tyB h d t) h else .bad
    | _ => .bad)
  | .all => (match ds with
    | [d] => (match lstI h d with
      | some xs => (match blsOf xs with
        | some bs => .ok (.bl (bs.all id)) h
        | none => .bad)
      | none => .bad)
    | _ => .bad)
  | .any => (match ds with
    | [d] => (match lstI h d with
      | some xs => (match blsOf xs with
        | some bs => .ok (.bl (bs.any id)) h
        | none => .bad)
      | none => .bad)
    | _ => .bad)
  | .tuple => (match ds with
    | [d] => (match items h d with
      | some xs => .ok (.tup xs) h
      | none => .bad)
    | _ => .bad)
  | .list => (match ds with
    | [d] => (match items h d with
      | some xs => .ok (.lst xs) h
      | none => .bad)
    | _ => .bad)
  | .listM => (match ds with
    | [d] => (match items h d with
      | some xs => .ok (.loc h.length) (h ++ [.lst xs])
      | none => .bad)
    | _ => .bad)
  | .sorted => (match ds with
    | [d] => (match lstI h d with
      | some xs => (match intsOf xs with
        | some is => .ok (.lst ((sortI is).map .int)) h
        | none => .bad)
      | none => .bad)
    | _ => .bad)
  | .sum => (match ds with
    | [d] => (match lstI h d with
      | some xs => (match intsOf xs with
        | some is => .ok (.int is.sum) h
        | none => .bad)
      | none => .bad)
    | _ => .bad)
  | .max => (match ds with
    | [.int i, .int j] => .ok (.int (if j > i then j else i)) h
    | [d] => (match lstI h d with
      | some xs => (match intsOf xs with
        | some (i :: is) => .ok (.int (is.foldl (fun a b => if b > a then b else a) i)) h
        | _ => .bad)
      | none => .bad)
    | _ => .bad)
  | .min => (match ds with
    | [.int i, .int j] => .ok (.int (if j < i then j else i)) h
    | _ => .bad)
/-- sorted(set(ints)) -/
def dedI : List Int → List Int
  | [] => []
  | i :: is => if is.contains i then dedI is else i :: dedI is
def srtS (d : D) (h : Hs) : R D := match lstI h d with
  | some xs => (match intsOf xs with
    | some is => if Nat.blt is.length 64 then .ok (.lst ((sortI (dedI is)).map .int)) h else .bad
    | none => .bad)
  | none => .bad
def callM (o : D) (m : M) (ds : List D) (h : Hs) : R D :=
  match m with
  | .append => (match o, ds with
    | .loc n, [d] => (match h[n]? with
      | some (.lst xs) => if Nat.blt xs.length lim then .ok .non (h.set n (.lst (xs ++ [d]))) else .bad
      | _ => .bad)
    | _, _ => .bad)
  | .extend => (match o, ds with
    | .loc n, [d] => (match h[n]?, lstI h d with
      | some (.lst xs), some ys => if Nat.ble (xs.length + ys.length) lim then .ok .non (h.set n (.lst (xs ++ ys))) else .bad
      | _, _ => .bad)
    | _, _ => .bad)
  | .get => (match dicI h o with
    | some kvs => (match ds with
      | [a, b] => if flat a && flatK kvs then .ok ((kvFind a kvs).getD b) h else .bad
      | [a] => if flat a && flatK kvs then .ok ((kvFind a kvs).getD .non) h else .bad
      | _ => .bad)
    | none => .bad)
/-- the arguments that a def gets -/
def arr1 {α : Type} (ds ks : List α) : Slp α → Option α
  | .pos j => ds[j]?
  | .kw j => ks[j]?
  | .dfl d => some d
def arr {α : Type} (ds ks : List α) : List (Slp α) → Option (List α)
  | [] => some []
  | s :: r => match arr1 ds ks s with
    | some d => (match arr ds ks r with
      | some l => some (d :: l)
      | none => none)
    | none => none
def flatO : Option D → Bool
  | none => true
  | some d => flat d
/-- back from a def that knew no place of ours -/
def back (h : Hs) : R D → R D
  | .ok d [] => .ok d h
  | .exc c x [] => if flatO x then .exc c x h else .bad
  | _ => .bad
def callP (E : Ev) (f : Nat) (l : List D) (h : Hs) : R D :=
  if D.undrs 0 l then back h (E.call f l []) else E.call f l h

/-! ### instances -/
def objI (h : Hs) : D → Option (Str × List (Str × D))
  | .obj c ns vs => some (c, ns.zip vs)
  | .loc n => (match h[n]? with
    | some (.ins c fs) => some (c, fs)
    | _ => none)
  | _ => none
def clsOf (E : Ev) (c : Str) : Option Cl := E.cs.find? fun q => decide (q.nm = c)
def insOf (E : Ev) (c : Str) : Option Cl := match clsOf E c with
  | some cl => if cl.exc then none else some cl
  | none => none
/-- x.f -/
def getA (E : Ev) (x : D) (f : Str) (h : Hs) : R D := match objI h x with
  | some (c, fs) => (match insOf E c with
    | some cl => (match cl.props.lookup f with
      | some g => if E.ab.contains g then .bad else strip (callP E g [x] h)
      | none => if cl.flds.contains f then optD (fs.lookup f) h else .bad)
    | none => .bad)
  | none => .bad
/-- a special method of x -/
def spec (E : Ev) (x : D) (m : Str) (ds : List D) (h : Hs) : R D := match objI h x with
  | some (c, _) => (match insOf E c with
    | some cl => (match cl.meths.lookup m with
      | some g => if E.ab.contains g then .bad else callP E g (x :: ds) h
      | none => .bad)
    | none => .bad)
  | none => .bad
/-- C(..) where our places are known -/
def makeC (E : Ev) (cl : Cl) (sh : Nat) (ds zs : List D) (h : Hs) : R D := match cl.init, (E.shs[sh]?).bind (arr (.loc h.length :: ds) zs) with
  | some f, some l => if E.ab.contains f then .bad else (match E.call f l (h ++ [.ins cl.nm []]) with
    | .ok .non h' => done h.length (.loc h.length) h'
    | .exc c x h' => if flatO x && (h'.take h.length).all (O.undr h.length) then .exc c x (h'.take h.length) else .bad
    | _ => .bad)
  | _, _ => .bad
def makeP (E : Ev) (c sh : Nat) (ds zs : List D) (h : Hs) : R D := match E.cs[c]? with
  | some cl => if cl.exc then .bad else if D.undrs 0 ds && D.undrs 0 zs then back h (makeC E cl sh ds zs []) else makeC E cl sh ds zs h
  | none => .bad
/-- isinstance(x, C): C the own class c -/
def isOwn (E : Ev) (x : D) (c : Nat) (h : Hs) : R D := match E.cs[c]? with
  | some cl => if cl.exc then .bad else (match objI h x with
    | some (d, _) => (match insOf E d with
      | some dl => .ok (.bl (dl.sup.contains cl.nm)) h
      | none => .bad)
    | none => (match tyB h x "int" with
      | some _ => .ok (.bl false) h
      | none => .bad))
  | none => .bad
def asLen : R D → R D
  | .ok (.int i) h => if decide (0 ≤ i) && decide (i < 2 ^ 62) then .ok (.int i) h else .bad
  | .ok _ _ => .bad
  | .exc c x h => .exc c x h
  | .bad => .bad
def asBl : R D → R D
  | .ok (.bl b) h => .ok (.bl b) h
  | .ok _ _ => .bad
  | .exc c x h => .exc c x h
  | .bad => .bad
/-! ### expressions -/
/-- a slice's bound: left out, or an int -/
def bnd (no : Bool) (r : R D) : R D := match no, r with
  | true, _ => r
  | false, .ok (.int i) h => .ok (.int i) h
  | false, .ok _ _ => .bad
  | false, .exc c x h => .exc c x h
  | false, .bad => .bad
def kindM (m : M) (x : D) (h : Hs) : Bool := match m with
  | .append => (match x with
    | .loc n => (match h[n]? with
      | some (.lst _) => true
      | _ => false)
    | _ => false)
  | .extend => (match x with
    | .loc n => (match h[n]? with
      | some (.lst _) => true
      | _ => false)
    | _ => false)
  | .get => (dicI h x).isSome
def asB : R D → R Bool
  | .ok (.bl b) h => .ok b h
  | .ok _ _ => .bad
  | .exc c x h => .exc c x h
  | .bad => .bad
/-- as a test: its truth -/
def tst (t : Bool) (r : R D) : R D := match t with
  | true => r.bind fun x h => (match truthy h x with
    | some b => .ok (.bl b) h
    | none => .bad)
  | false => r
def notT (t : Bool) (x y : R D) : R D := match t with
  | true => x
  | false => tst true y
/-- a turn of a comprehension -/
def stepC (set : Option Lc) (exA : Lc → Hs → R Bool) (ex : Lc → Hs → R D) (h : Hs) : R (Option D) := match set with
  | some L2 => (exA L2 h).bind fun c h => if c then (ex L2 h).bind fun y h => .ok (some y) h else .ok none h
  | none => .bad
/-- a turn of the first clause of two -/
def stepF2 (set : Option Lc) (exA : Lc → Hs → R Bool) (inner : Lc → Hs → R (List D)) (h : Hs) : R (List D) := match set with
  | some L2 => (exA L2 h).bind fun c h => if c then inner L2 h else .ok [] h
  | none => .bad
def lcLoopF (s : Src) (step : D → Hs → R (List D)) : List D → Hs → R (List D)
  | [], h => if chk s h then .ok [] h else .bad
  | d :: r, h => if chk s h then (strip (step d h)).bind fun o h1 => (lcLoopF s step r h1).bind fun ys h2 => .ok (o ++ ys) h2 else .bad
mutual
/-- t: as a test -/
def ex (E : Ev) : C → Bool → Lc → Hs → R D
  | .var i, t, L, h => tst t (match L[i]? with
    | some (some d) => .ok d h
    | _ => .bad)
  | .cint i, t, _, h => tst t (.ok (.int i) h)
  | .cbl b, t, _, h => tst t (.ok (.bl b) h)
  | .cnon, t, _, h => tst t (.ok .non h)
  | .cstr x, t, _, h => tst t (.ok (.str x) h)
  | .glo i, t, _, h => tst t (optD (E.G[i]?) h)
  | .tyv n, t, _, h => tst t (.ok (.ty n) h)
  | .bin op a b, t, L, h => tst t ((ex E a false L h).bind fun x h => (ex E b false L h).bind fun y h => opBin op x y h)
  | .neg a, t, L, h => tst t ((ex E a false L h).bind fun x h => (match x with
    | .int i => .ok (.int (-i)) h
    | _ => .bad))
  | .cmp op a b, t, L, h => tst t ((ex E a false L h).bind fun x h => (ex E b false L h).bind fun y h => opCmp op x y h)
  | .chain op op2 a b c, t, L, h => tst t ((ex E a false L h).bind fun x h => (ex E b false L h).bind fun y h => (opCmp op x y h).bind fun z h => (match z with
    | .bl true => (ex E c false L h).bind fun u h => opCmp op2 y u h
    | .bl false => .ok (.bl false) h
    | _ => .bad))
  | .and a b, t, L, h => (ex E a t L h).bind fun x h => (match x with
    | .bl true => ex E b t L h
    | .bl false => .ok (.bl false) h
    | _ => .bad)
  | .or a b, t, L, h => (ex E a t L h).bind fun x h => (match x with
    | .bl true => .ok (.bl true) h
    | .bl false => ex E b t L h
    | _ => .bad)
  | .not a, t, L, h => (asB (notT t (ex E a true L h) (ex E a false L h))).bind fun b h => .ok (.bl (!b)) h
  | .ife c a b, t, L, h => (asB (ex E c true L h)).bind fun c h => if c then ex E a t L h else ex E b t L h
  | .tup es, t, L, h => tst t ((exs E es L h).bind fun xs h => newT xs h)
  | .lst m es, t, L, h => tst t ((exs E es L h).bind fun xs h => newL m xs h)
  | .dnew, t, _, h => tst t (.ok (.loc h.length) (h ++ [.dic []]))
  | .call f sh es ks, t, L, h => tst t ((exs E es L h).bind fun ds h => (exs E ks L h).bind fun zs h => (match (E.shs[sh]?).bind (arr ds zs) with
    | some l => callP E f l h
    | none => .bad))
  | .blt f es, t, L, h => tst t ((exs E es L h).bind fun ds h => callB f ds h)
  | .met o m es, t, L, h => tst t ((ex E o false L h).bind fun x h1 => if kindM m x h1 then (exs E es L h1).bind fun ds h2 => callM x m ds h2 else .bad)
  | .dvals o, t, L, h => tst t ((ex E o false L h).bind fun x h1 => (match dicI h1 x with
    | some kvs => .ok (.lst (kvs.map (·.2))) h1
    | none => .bad))
  | .sub o i, t, L, h => tst t ((ex E o false L h).bind fun x h => (ex E i false L h).bind fun y h => opSub x y h)
  | .slc o lo hi, t, L, h => tst t ((ex E o false L h).bind fun x h => (bnd (isNo lo) (ex E lo false L h)).bind fun y h => (bnd (isNo hi) (ex E hi false L h)).bind fun z h => opSlc x y z h)
  | .no, _, _, h => .ok .non h
  | .bad, _, _, _ => .bad
  | .srt e, t, L, h => tst t ((ex E e false L h).bind fun x h => srtS x h)
  | .rep es j, t, L, h => tst t ((exs E es L h).bind fun xs h => if Nat.ble xs.length lim && Nat.ble j 1000 && Nat.ble (xs.length * j) lim then .ok (.lst (List.replicate j xs).flatten) h else .bad)
  | .att o f, t, L, h => tst t ((ex E o false L h).bind fun x h => getA E x f h)
  | .new c sh es ks, t, L, h => tst t ((exs E es L h).bind fun ds h => (exs E ks L h).bind fun zs h => makeP E c sh ds zs h)
  | .olen o, t, L, h => tst t ((ex E o false L h).bind fun x h => asLen (spec E x "__len__" [] h))
  | .oin a o, t, L, h => tst t ((ex E a false L h).bind fun x h => (ex E o false L h).bind fun y h => asBl (spec E y "__contains__" [x] h))
  | .isO e c, t, L, h => tst t ((ex E e false L h).bind fun x h => isOwn E x c h)
  | .lc m vs tg it ifs e, t, L, h => tst t ((exI E it L h).bind fun s h => (lcLoop s (fun d h => stepC (setTg tg d (wipeL vs L)) (fun L h => exA E ifs L h) (fun L h => ex E e false L h) h) s.xs h).bind fun ys h => newL m ys h)
  | .lc2 m vs vs1 tg it ifs tg1 it1 ifs1 e, t, L, h => tst t ((exI E it L h).bind fun s h => (lcLoopF s (fun d h => stepF2 (setTg tg d (wipeL vs L)) (fun L h => exA E ifs L h) (fun L h => (strip (exI E it1 L h)).bind fun s1 h => lcLoop s1 (fun d h => stepC (setTg tg1 d (wipeL vs1 L)) (fun L h => exA E ifs1 L h) (fun L h => ex E e false L h) h) s1.xs h) h) s.xs h).bind fun ys h => newL m ys h)
def exs (E : Ev) : Cs → Lc → Hs → R (List D)
  | .nil, _, h => .ok [] h
  | .cons e r, L, h => (ex E e false L h).bind fun x h => (exs E r L h).bind fun xs h => .ok (x :: xs) h
  | .star e r, L, h => (ex E e false L h).bind fun x h => (match items h x with
    | some ys => (exs E r L h).bind fun xs h => .ok (ys ++ xs) h
    | none => .bad)
def exI (E : Ev) : It → Lc → Hs → R Src
  | .of e, L, h => (ex E e false L h).bind fun d h => srcOf d h fun xs => xs
  | .rng es, L, h => (exs E es L h).bind fun ds h => rngOf ds h
  | .enum e, L, h => (ex E e false L h).bind fun d h => srcOf d h (enumD 0)
  | .zip a b, L, h => (ex E a false L h).bind fun x h => (ex E b false L h).bind fun y h => zipOf x y h
/-- all the tests of a clause -/
def exA (E : Ev) : Cs → Lc → Hs → R Bool
  | .nil, _, h => .ok true h
  | .cons e r, L, h => (asB (ex E e true L h)).bind fun c h => if c then exA E r L h else .ok false h
  | .star _ _, _, _ => .bad
end
example (E : Ev) (L : Lc) (h : Hs) : ex E (.bin .Add (.cint 3) (.cint 4)) false L h = .ok (.int 7) h := rfl

/-! ### statements -/
inductive SR where
  | next (L : Lc) (h : Hs)
  | ret (d : D) (h : Hs)
  | brk (L : Lc) (h : Hs)
  | cont (L : Lc) (h : Hs)
  | exc (c : Str) (x : Option D) (L : Lc) (h : Hs)
  | bad
/-- behind an expression of a statement -/
def thenS {α : Type} (L : Lc) : R α → (α → Hs → SR) → SR
  | .ok a h, f => f a h
  | .exc c x h, _ => .exc c x L h
  | .bad, _ => .bad
def optS (o : Option Lc) (h : Hs) : SR := match o with
  | some L => .next L h
  | none => .bad
def seqS : SR → (Lc → Hs → SR) → SR
  | .next L h, f => f L h
  | r, _ => r
/-- behind a turn of a loop -/
def loopS (r : SR) (f : Lc → Hs → SR) : SR := match r with
  | .next L h => f L h
  | .cont L h => f L h
  | .brk L h => .next L h
  | .ret d h => .ret d h
  | .exc c x L h => .exc c x L h
  | .bad => .bad
def forLoop (s : Src) (step : D → Lc → Hs → SR) : List D → Lc → Hs → SR
  | [], L, h => if chk s h then .next L h else .bad
  | d :: r, L, h => if chk s h then loopS (step d L h) (forLoop s step r) else .bad
def whileLoop (test : Lc → Hs → R Bool) (step : Lc → Hs → SR) : Nat → Lc → Hs → SR
  | 0, _, _ => .bad
  | n + 1, L, h => thenS L (test L h) fun c h => if c then loopS (step L h) (whileLoop test step n) else .next L h
def setSub (a b v : D) (h : Hs) : R Unit := match a with
  | .loc n => (match h[n]? with
    | some (.dic kvs) => if flat b && flatK kvs && Nat.blt kvs.length lim then .ok () (h.set n (.dic (kvPut b v kvs))) else .bad
    | _ => .bad)
  | _ => .bad
def putD (f : Str) (v : D) : List (Str × D) → List (Str × D)
  | [] => [(f, v)]
  | (g, x) :: r => if g = f then (g, v) :: r else (g, x) :: putD f v r
/-- a.f = v -/
def setA (E : Ev) (a : D) (f : Str) (v : D) (h : Hs) : R Unit := match a with
  | .loc n => (match h[n]? with
    | some (.ins c fs) => (match insOf E c with
      | some cl => if cl.flds.contains f && Nat.blt fs.length 1000 then .ok () (h.set n (.ins c (putD f v fs))) else .bad
      | none => .bad)
    | _ => .bad)
  | _ => .bad
/-- does a clause of the class c take an exception of the class named x -/
def caught (E : Ev) (x : Str) (c : Nat) : Option Bool := match E.cs[c]?, clsOf E x with
  | some cl, some dl => if cl.exc && dl.exc then some (dl.sup.contains cl.nm) else none
  | _, _ => none
/-- behind a try's body: except C: return e -/
def catchS (E : Ev) (c : Nat) (e : Option D) : SR → SR
  | .exc x p L h => (match caught E x c, e with
    | some true, some d => .ret d h
    | some false, _ => .exc x p L h
    | _, _ => .bad)
  | r => r
def constC : C → Option D
  | .cnon => some .non
  | .cint i => some (.int i)
  | .cbl b => some (.bl b)
  | .cstr x => some (.str x)
  | _ => none
def opAug (op : Operator) (a b : D) (h : Hs) : R D := match op, a, b with
  | .Add, .int i, .int j => .ok (.int (i + j)) h
  | .Sub, .int i, .int j => .ok (.int (i - j)) h
  | _, _, _ => .bad
def setAll (ts : List Nat) (xs : List D) (L : Lc) : Option Lc := if Nat.beq xs.length ts.length then some ((ts.zip xs).foldl (fun L p => L.set p.1 (some p.2)) L) else none
/-- a turn of a for -/
def stepF (set : Option Lc) (b : Lc → Hs → SR) (h : Hs) : SR := match set with
  | some L2 => b L2 h
  | none => .bad
mutual
def exS (E : Ev) : S → Lc → Hs → SR
  | .expr e, L, h => thenS L (ex E e false L h) fun _ h => .next L h
  | .asg tg e, L, h => thenS L (ex E e false L h) fun d h => optS (setTg tg d L) h
  | .par ts es, L, h => thenS L (exs E es L h) fun xs h => optS (setAll ts xs L) h
  | .sset o i e, L, h => thenS L (ex E e false L h) fun v h => thenS L (ex E o false L h) fun a h => thenS L (ex E i false L h) fun b h => thenS L (setSub a b v h) fun _ h => .next L h
  | .fset o f e, L, h => thenS L (ex E e false L h) fun v h => thenS L (ex E o false L h) fun a h => thenS L (setA E a f v h) fun _ h => .next L h
  | .raise c, L, h => (match E.cs[c]? with
    | some cl => if cl.exc && cl.init.isNone then .exc cl.nm none L h else .bad
    | none => .bad)
  | .tryC b c e, L, h => catchS E c (constC e) (exSs E b L h)
  | .aug op i e, L, h => (match L[i]? with
    | some (some x) => thenS L (ex E e false L h) fun y h => thenS L (opAug op x y h) fun z h => .next (L.set i (some z)) h
    | _ => .bad)
  | .ret e, L, h => thenS L (ex E e false L h) fun d h => .ret d h
  | .retN, _, h => .ret .non h
  | .ife t a b, L, h => thenS L (asB (ex E t true L h)) fun c h => if c then exSs E a L h else exSs E b L h
  | .whl t b, L, h => whileLoop (fun L h => asB (ex E t true L h)) (fun L h => exSs E b L h) E.wf L h
  | .for tg it b, L, h => thenS L (exI E it L h) fun s h => forLoop s (fun d L h => stepF (setTg tg d L) (fun L h => exSs E b L h) h) s.xs L h
  | .never, _, _ => .bad
  | .pass, L, h => .next L h
  | .brk, L, h => .brk L h
  | .cont, L, h => .cont L h
def exSs (E : Ev) : Ss → Lc → Hs → SR
  | .nil, L, h => .next L h
  | .cons s r, L, h => seqS (exS E s L h) fun L h => exSs E r L h
end

/-! ### defs -/
def endS (n : Nat) : SR → R D
  | .next _ h => done n .non h
  | .ret d h => done n d h
  | .exc c x _ h => if flatO x && (h.take n).all (O.undr n) then .exc c x (h.take n) else .bad
  | _ => .bad
def initL (nn : Nat) (ds : List D) : Lc := ds.map some ++ List.replicate (nn - ds.length) none
/-- a program: the module's values, the shapes of calls, the defs, a bound of a while's turns -/
structure Prg where
  G : List D
  shs : List (List Sl)
  fns : List Fn
  wf : Nat
  cs : List Cl
  ab : List Nat
def run (p : Prg) : Nat → Nat → List D → Hs → R D
  | 0, _, _, _ => .bad
  | k + 1, f, ds, h => (match p.fns[f]? with
    | some fn => if Nat.beq ds.length fn.np then endS h.length (exSs ⟨p.G, p.shs, run p k, p.wf, p.cs, p.ab⟩ fn.body (initL fn.nn ds) h) else .bad
    | none => .bad)
end EV

set_option Elab.async false
set_option linter.all false
set_option maxRecDepth 100000
set_option maxHeartbeats 1000000
/-! EV 1: how the evaluator's values and heaps stand for those of the layer. -/
namespace EV
open PySem PySem.Spec PyProof.Rows L2

/-- what is fixed through a law -/
structure Sy where
  P : Program
  w : World
  K : PySem.W.Frag
  mg : Str → Option Value
/-- addresses that others may write (f), our places (o) -/
structure Rg where
  f : List Addr
  o : List Addr
def Rg.has (r : Rg) (a : Addr) : Prop := a ∈ r.f ∨ a ∈ r.o

def KTup (K : PySem.W.Frag) (a : Addr) (xs : List V) : Prop :=
  ∃ (o : Obj) (its : Array Value) (n : Nat), K.lookup a = some o ∧ o.cls = .type "tuple" ∧ o.data = .seq its n ∧ its.size ≤ sizeLine ∧ Vals xs its.toList
def TupAt (K : PySem.W.Frag) (r : Rg) (H : Hp) (a : Addr) (xs : List V) : Prop := (H a = some (.tup xs) ∧ ¬ r.has a) ∨ KTup K a xs
theorem TupAt.sq {K : PySem.W.Frag} {r : Rg} {H : Hp} {a : Addr} {xs : List V} (h : TupAt K r H a xs) : SqT K H a xs := by
  rcases h with ⟨h, _⟩ | h
  · exact .inl (.inl h)
  · exact .inr h
def LstO (H : Hp) (a : Addr) (xs : List V) : Prop := H a = some (.lst xs) ∨ ∃ ob, H a = some (.frz ob (.lst xs))
theorem LstO.sq {K : PySem.W.Frag} {H : Hp} {a : Addr} {xs : List V} (h : LstO H a xs) : SqL K H a xs := by
  rcases h with h | ⟨ob, h⟩
  · exact SqL.of h
  · exact .inl (.inr ⟨ob, h⟩)
theorem LstO.there {H : Hp} {a : Addr} {xs : List V} (h : LstO H a xs) : ∃ u, H a = some u := by
  rcases h with h | ⟨ob, h⟩
  · exact ⟨_, h⟩
  · exact ⟨_, h⟩

/-! ### keys carried by value -/
def leafOf : D → Option PySem.Leaf
  | .non => some .none
  | .bl b => some (.num (if b then 1 else 0))
  | .int i => some (.num i)
  | .str x => some (.text x)
  | _ => none
/-- a dict whose keys are carried by value -/
def DicL (P : Program) (w : World) (a : Addr) (kvs : List (PySem.Leaf × V)) : HO := .ext fun h => kvs.length ≤ sizeLine ∧ (a == sysModules) = false ∧ ∃ vs, KV kvs vs ∧ h.DictOf (leafKind P w) a vs

mutual
def RD (Y : Sy) (r : Rg) (H : Hp) : D → V → Prop
  | .non, v => v = .non
  | .bl b, v => v = .bl b
  | .int i, v => v = .int i
  | .str x, v => v = .str x
  | .ty n, v => v = .ty n
  | .glo x, v => ∃ f, v = .ref f ∧ Y.mg x = some (.ref f)
  | .loc n, v => ∃ a, v = .ref a ∧ r.o[n]? = some a
  | .tup ds, v => ∃ a vs, v = .ref a ∧ TupAt Y.K r H a vs ∧ RDs Y r H ds vs
  | .lst ds, v => ∃ a vs, v = .ref a ∧ (LstO H a vs ∧ ¬ r.has a) ∧ RDs Y r H ds vs
  | .dic ks ds, v => ∃ (a : Addr) (lvs : List (PySem.Leaf × V)), v = .ref a ∧ (H a = some (DicL Y.P Y.w a lvs) ∧ ¬ r.has a) ∧ ks.map leafOf = lvs.map (fun q => some q.1) ∧ RDs Y r H ds (lvs.map (·.2))
  | .obj c ns ds, v => ∃ (a C dx : Addr) (fs : List (Str × V)), v = .ref a ∧ (H a = some (.ins C dx fs) ∧ ¬ r.has a) ∧ Y.mg c = some (.ref C) ∧ fs.map (·.1) = ns ∧ RDs Y r H ds (fs.map (·.2))
def RDs (Y : Sy) (r : Rg) (H : Hp) : List D → List V → Prop
  | [], vs => vs = []
  | d :: ds, vs => ∃ v t, vs = v :: t ∧ RD Y r H d v ∧ RDs Y r H ds t
end
section
variable {Y : Sy} {r : Rg} {H : Hp}
theorem RD.tup_inv {ds : List D} {v : V} (h : RD Y r H (.tup ds) v) : ∃ a vs, v = .ref a ∧ TupAt Y.K r H a vs ∧ RDs Y r H ds vs := by simpa only [RD] using h
theorem RD.lst_inv {ds : List D} {v : V} (h : RD Y r H (.lst ds) v) : ∃ a vs, v = .ref a ∧ (LstO H a vs ∧ ¬ r.has a) ∧ RDs Y r H ds vs := by simpa only [RD] using h
theorem RD.dic_inv {ks ds : List D} {v : V} (h : RD Y r H (.dic ks ds) v) : ∃ (a : Addr) (lvs : List (PySem.Leaf × V)), v = .ref a ∧ (H a = some (DicL Y.P Y.w a lvs) ∧ ¬ r.has a) ∧ ks.map leafOf = lvs.map (fun q => some q.1) ∧ RDs Y r H ds (lvs.map (·.2)) := by simpa only [RD] using h
theorem RD.obj_inv {c : Str} {ns : List Str} {ds : List D} {v : V} (h : RD Y r H (.obj c ns ds) v) : ∃ (a C dx : Addr) (fs : List (Str × V)), v = .ref a ∧ (H a = some (.ins C dx fs) ∧ ¬ r.has a) ∧ Y.mg c = some (.ref C) ∧ fs.map (·.1) = ns ∧ RDs Y r H ds (fs.map (·.2)) := by simpa only [RD] using h
theorem RD.loc_inv {n : Nat} {v : V} (h : RD Y r H (.loc n) v) : ∃ a, v = .ref a ∧ r.o[n]? = some a := by simpa only [RD] using h
theorem RD.int_inv {i : Int} {v : V} (h : RD Y r H (.int i) v) : v = .int i := by simpa only [RD] using h
theorem RD.int' {i : Int} : RD Y r H (.int i) (.int i) := by simp only [RD]
theorem RD.bl' {i : Bool} : RD Y r H (.bl i) (.bl i) := by simp only [RD]
theorem RD.str' {i : Str} : RD Y r H (.str i) (.str i) := by simp only [RD]
theorem RD.non' : RD Y r H .non .non := by simp only [RD]
theorem RD.str_inv {i : Str} {v : V} (h : RD Y r H (.str i) v) : v = .str i := by simpa only [RD] using h
theorem RD.bl_inv {i : Bool} {v : V} (h : RD Y r H (.bl i) v) : v = .bl i := by simpa only [RD] using h
theorem RD.non_inv {v : V} (h : RD Y r H .non v) : v = .non := by simpa only [RD] using h
theorem RD.ty_inv {n : String} {v : V} (h : RD Y r H (.ty n) v) : v = .ty n := by simpa only [RD] using h
theorem RDs.cons_inv {d : D} {ds : List D} {vs : List V} (h : RDs Y r H (d :: ds) vs) : ∃ v t, vs = v :: t ∧ RD Y r H d v ∧ RDs Y r H ds t := by simpa only [RDs] using h
theorem RDs.nil_inv {vs : List V} (h : RDs Y r H [] vs) : vs = [] := by simpa only [RDs] using h
theorem RDs.nil : RDs Y r H [] [] := by simp only [RDs]
theorem RDs.cons {d : D} {v : V} {ds : List D} {vs : List V} (h : RD Y r H d v) (t : RDs Y r H ds vs) : RDs Y r H (d :: ds) (v :: vs) := by
  simp only [RDs]
  exact ⟨v, vs, rfl, h, t⟩
end
/-! ### from one heap to another -/
/-- what may happen to the things that values are made of -/
structure Goes (r : Rg) (H : Hp) (r' : Rg) (H' : Hp) : Prop where
  loc : ∀ (n : Nat) (a : Addr), r.o[n]? = some a → r'.o[n]? = some a
  obj : ∀ a o, H a = some o → ¬ r.has a → H' a = some o ∧ ¬ r'.has a
mutual
theorem RD.go {Y : Sy} {r r' : Rg} {H H' : Hp} (e : Goes r H r' H') : ∀ {d : D} {v : V}, RD Y r H d v → RD Y r' H' d v
  | .non, v, h => by simpa only [RD] using h
  | .bl b, v, h => by simpa only [RD] using h
  | .int i, v, h => by simpa only [RD] using h
  | .str x, v, h => by simpa only [RD] using h
  | .ty n, v, h => by simpa only [RD] using h
  | .glo x, v, h => by simpa only [RD] using h
  | .loc n, v, h => by
    obtain ⟨a, h1, h2⟩ := h.loc_inv
    simp only [RD]
    exact ⟨a, h1, e.loc n a h2⟩
  | .tup ds, v, h => by
    obtain ⟨a, vs, h1, h2, h3⟩ := h.tup_inv
    simp only [RD]
    refine ⟨a, vs, h1, ?_, RDs.go e h3⟩
    rcases h2 with ⟨h2, n⟩ | h2
    · exact .inl (e.obj a _ h2 n)
    · exact .inr h2
  | .lst ds, v, h => by
    obtain ⟨a, vs, h1, ⟨h2, n⟩, h3⟩ := h.lst_inv
    simp only [RD]
    refine ⟨a, vs, h1, ?_, RDs.go e h3⟩
    rcases h2 with h2 | ⟨ob, h2⟩
    · exact ⟨.inl (e.obj a _ h2 n).1, (e.obj a _ h2 n).2⟩
    · exact ⟨.inr ⟨ob, (e.obj a _ h2 n).1⟩, (e.obj a _ h2 n).2⟩
  | .dic ks ds, v, h => by
    obtain ⟨a, lvs, h1, ⟨h2, n⟩, h3, h4⟩ := h.dic_inv
    simp only [RD]
    exact ⟨a, lvs, h1, e.obj a _ h2 n, h3, RDs.go e h4⟩
  | .obj c ns ds, v, h => by
    obtain ⟨a, C, dx, fs, h1, ⟨h2, n⟩, h3, h4, h5⟩ := h.obj_inv
    simp only [RD]
    exact ⟨a, C, dx, fs, h1, e.obj a _ h2 n, h3, h4, RDs.go e h5⟩
theorem RDs.go {Y : Sy} {r r' : Rg} {H H' : Hp} (e : Goes r H r' H') : ∀ {ds : List D} {vs : List V}, RDs Y r H ds vs → RDs Y r' H' ds vs
  | [], vs, h => by simpa only [RDs] using h
  | d :: ds, vs, h => by
    obtain ⟨v, t, h1, h2, h3⟩ := h.cons_inv
    simp only [RDs]
    exact ⟨v, t, h1, RD.go e h2, RDs.go e h3⟩
end
structure Ext (r : Rg) (H : Hp) (r' : Rg) (H' : Hp) : Prop where
  lf : ∃ t, r'.f = t ++ r.f ∧ ∀ a ∈ t, H a = none
  le : ∃ t, r'.o = r.o ++ t
  fr : ∀ a o, H a = some o → a ∉ r.o → H' a = some o
  nw : ∀ a, a ∈ r'.o → a ∉ r.o → H a = none
  st : ∀ a, H' a = none → H a = none
theorem Ext.refl (r : Rg) (H : Hp) : Ext r H r H := ⟨⟨[], by simp⟩, ⟨[], by simp⟩, fun _ _ h _ => h, fun _ h n => absurd h n, fun _ h => h⟩
theorem Ext.trans {r r1 r2 : Rg} {H H1 H2 : Hp} (a : Ext r H r1 H1) (b : Ext r1 H1 r2 H2) : Ext r H r2 H2 := by
  have key : ∀ c o, H c = some o → c ∉ r.o → c ∉ r1.o := fun c o e n m => by rw [a.nw c m n] at e; cases e
  refine ⟨?_, ?_, fun c o e n => b.fr c o (a.fr c o e n) (key c o e n), fun c m n => ?_, fun c e => a.st c (b.st c e)⟩
  · obtain ⟨t, e1, n1⟩ := a.lf
    obtain ⟨u, e2, n2⟩ := b.lf
    refine ⟨u ++ t, by rw [e2, e1, List.append_assoc], fun c m => ?_⟩
    rcases List.mem_append.mp m with m | m
    · exact a.st c (n2 c m)
    · exact n1 c m
  · obtain ⟨t, e1⟩ := a.le
    obtain ⟨u, e2⟩ := b.le
    exact ⟨t ++ u, by rw [e2, e1, List.append_assoc]⟩
  · by_cases m1 : c ∈ r1.o
    · exact a.nw c m1 n
    · cases e : H c with
      | none => rfl
      | some o =>
        have := b.nw c m m1
        rw [a.fr c o e n] at this
        cases this
theorem Ext.get {r r' : Rg} {H H' : Hp} (e : Ext r H r' H') {n : Nat} {a : Addr} (h : r.o[n]? = some a) : r'.o[n]? = some a := by
  obtain ⟨t, e⟩ := e.le
  rw [e]
  obtain ⟨h1, h2⟩ := List.getElem?_eq_some_iff.mp h
  rw [List.getElem?_append_left h1]
  exact h
theorem Ext.goes {r r' : Rg} {H H' : Hp} (e : Ext r H r' H') : Goes r H r' H' := by
  refine ⟨fun n a h => e.get h, fun a o h n => ⟨e.fr a o h fun m => n (.inr m), fun m => ?_⟩⟩
  rcases m with m | m
  · obtain ⟨t, e1, n1⟩ := e.lf
    rw [e1] at m
    rcases List.mem_append.mp m with m | m
    · rw [n1 a m] at h; cases h
    · exact n (.inl m)
  · rw [e.nw a m fun m => n (.inr m)] at h
    cases h
theorem RD.mono {Y : Sy} {r r' : Rg} {H H' : Hp} (e : Ext r H r' H') {d : D} {v : V} (h : RD Y r H d v) : RD Y r' H' d v := h.go e.goes
theorem RDs.mono {Y : Sy} {r r' : Rg} {H H' : Hp} (e : Ext r H r' H') {ds : List D} {vs : List V} (h : RDs Y r H ds vs) : RDs Y r' H' ds vs := h.go e.goes
theorem Ext.tup {K : PySem.W.Frag} {r r' : Rg} {H H' : Hp} {a : Addr} {xs : List V} (e : Ext r H r' H') (h : TupAt K r H a xs) : TupAt K r' H' a xs := by
  rcases h with ⟨h, n⟩ | h
  · exact .inl (e.goes.obj a _ h n)
  · exact .inr h
section
variable {Y : Sy} {r : Rg} {H : Hp}
theorem RDs.length : ∀ {ds : List D} {vs : List V}, RDs Y r H ds vs → vs.length = ds.length
  | [], vs, h => by rw [h.nil_inv]; rfl
  | d :: ds, vs, h => by
    obtain ⟨v, t, rfl, _, h3⟩ := h.cons_inv
    simp [RDs.length h3]
theorem RDs.get : ∀ {ds : List D} {vs : List V} {i : Nat} {d : D}, RDs Y r H ds vs → ds[i]? = some d → ∃ v, vs[i]? = some v ∧ RD Y r H d v
  | [], _, _, _, _, e => by simp at e
  | c :: ds, vs, 0, d, h, e => by
    obtain ⟨v, t, rfl, h2, _⟩ := h.cons_inv
    simp at e
    subst e
    exact ⟨v, rfl, h2⟩
  | c :: ds, vs, i + 1, d, h, e => by
    obtain ⟨v, t, rfl, _, h3⟩ := h.cons_inv
    obtain ⟨u, h4, h5⟩ := RDs.get (i := i) h3 (by simpa using e)
    exact ⟨u, by simpa using h4, h5⟩
theorem RDs.append : ∀ {ds es : List D} {vs us : List V}, RDs Y r H ds vs → RDs Y r H es us → RDs Y r H (ds ++ es) (vs ++ us)
  | [], _, vs, _, h, g => by rw [h.nil_inv]; simpa using g
  | d :: ds, es, vs, us, h, g => by
    obtain ⟨v, t, rfl, h2, h3⟩ := h.cons_inv
    exact RDs.cons h2 (RDs.append h3 g)
theorem RDs.take : ∀ {ds : List D} {vs : List V} (n : Nat), RDs Y r H ds vs → RDs Y r H (ds.take n) (vs.take n)
  | [], vs, n, h => by rw [h.nil_inv]; simp [RDs.nil]
  | d :: ds, vs, 0, h => by simp [RDs.nil]
  | d :: ds, vs, n + 1, h => by
    obtain ⟨v, t, rfl, h2, h3⟩ := h.cons_inv
    exact RDs.cons h2 (RDs.take n h3)
theorem RDs.drop : ∀ {ds : List D} {vs : List V} (n : Nat), RDs Y r H ds vs → RDs Y r H (ds.drop n) (vs.drop n)
  | [], vs, n, h => by rw [h.nil_inv]; simp [RDs.nil]
  | d :: ds, vs, 0, h => by simpa using h
  | d :: ds, vs, n + 1, h => by
    obtain ⟨v, t, rfl, h2, h3⟩ := h.cons_inv
    exact RDs.drop n h3
end

/-! ### objects -/
def leafK (kvs : List (D × D)) : List (Option PySem.Leaf) := kvs.map fun q => leafOf q.1
def RO (Y : Sy) (r : Rg) (H : Hp) : O → Addr → Prop
  | .lst xs, a => ∃ vs, H a = some (.lst vs) ∧ RDs Y r H xs vs
  | .dic kvs, a => ∃ lvs : List (PySem.Leaf × V), H a = some (DicL Y.P Y.w a lvs) ∧ leafK kvs = lvs.map (fun q => some q.1) ∧ RDs Y r H (kvs.map (·.2)) (lvs.map (·.2))
  | .ins c fs, a => ∃ C dx vs, H a = some (.ins C dx vs) ∧ Y.mg c = some (.ref C) ∧ vs.map (·.1) = fs.map (·.1) ∧ RDs Y r H (fs.map (·.2)) (vs.map (·.2))
def noTup (H : Hp) (a : Addr) : Prop := ∃ u, H a = some u ∧ (∀ xs, u ≠ .tup xs) ∧ ∀ fs, u ≠ .xd fs
theorem RO.there {Y : Sy} {r : Rg} {H : Hp} {o : O} {a : Addr} (h : RO Y r H o a) : noTup H a := by
  cases o with
  | lst xs => obtain ⟨vs, h, _⟩ := h; exact ⟨_, h, (fun _ e => nomatch e), (fun _ e => nomatch e)⟩
  | dic kvs => obtain ⟨lvs, h, _⟩ := h; exact ⟨_, h, (fun _ e => nomatch e), (fun _ e => nomatch e)⟩
  | ins c fs => obtain ⟨C, dx, vs, h, _⟩ := h; exact ⟨_, h, (fun _ e => nomatch e), (fun _ e => nomatch e)⟩
/-- an object's description stays while its own entry stays -/
theorem RO.go {Y : Sy} {r r' : Rg} {H H' : Hp} {o : O} {a : Addr} (e : Goes r H r' H') (ha : H' a = H a) (h : RO Y r H o a) : RO Y r' H' o a := by
  cases o with
  | lst xs => obtain ⟨vs, h, q⟩ := h; exact ⟨vs, ha.trans h, q.go e⟩
  | dic kvs => obtain ⟨lvs, h, q1, q2⟩ := h; exact ⟨lvs, ha.trans h, q1, q2.go e⟩
  | ins c fs => obtain ⟨C, dx, vs, h, q1, q2, q3⟩ := h; exact ⟨C, dx, vs, ha.trans h, q1, q2, q3.go e⟩
structure RelH (Y : Sy) (r : Rg) (H : Hp) (h : Hs) : Prop where
  len : r.o.length = h.length
  nd : r.o.Nodup
  frm : ∀ a ∈ r.f, a ∉ r.o ∧ noTup H a
  obj : ∀ (n : Nat) (o : O) (a : Addr), h[n]? = some o → r.o[n]? = some a → RO Y r H o a
section
variable {Y : Sy} {r r' : Rg} {H H' : Hp} {h h' : Hs}
theorem RelH.mem (R : RelH Y r H h) {a : Addr} (m : r.has a) : noTup H a := by
  rcases m with m | m
  · exact (R.frm a m).2
  · obtain ⟨n, hn, e⟩ := List.getElem_of_mem m
    have hn' : n < h.length := by rw [← R.len]; exact hn
    exact (R.obj n h[n] a (List.getElem?_eq_getElem hn') (by rw [List.getElem?_eq_getElem hn, e])).there
theorem RelH.new (R : RelH Y r H h) {p : Addr} (np : H p = none) : ¬ r.has p := fun m => by
  obtain ⟨u, e, _⟩ := R.mem m
  rw [np] at e
  cases e
theorem st_upd {p : Addr} {u : HO} : ∀ a, upd H p u a = none → H a = none := fun a e => by
  by_cases q : a = p
  · rw [q, upd_same] at e; cases e
  · rw [upd_ne q] at e; exact e
/-- the abstract heap grows by one thing that is not tracked here -/
theorem Ext.grow {p : Addr} {u : HO} (np : H p = none) : Ext r H r (upd H p u) :=
  ⟨⟨[], by simp⟩, ⟨[], by simp⟩, fun a o e _ => by rw [upd_ne (ne_of_none e np)]; exact e, fun a m n => absurd m n, st_upd⟩
theorem noTup.grow {a p : Addr} {u : HO} (np : H p = none) (h : noTup H a) : noTup (upd H p u) a := by
  obtain ⟨x, e, n⟩ := h
  exact ⟨x, by rw [upd_ne (ne_of_none e np)]; exact e, n⟩
theorem RelH.keep (R : RelH Y r H h) (e : Ext r H r H') (k : ∀ a, r.has a → H' a = H a) : RelH Y r H' h :=
  ⟨R.len, R.nd, fun a m => ⟨(R.frm a m).1, by obtain ⟨u, q, n⟩ := (R.frm a m).2; exact ⟨u, (k a (.inl m)).trans q, n⟩⟩, fun n o a h1 h2 => (R.obj n o a h1 h2).go e.goes (k a (.inr (List.mem_of_getElem? h2)))⟩
theorem RelH.grow (R : RelH Y r H h) {p : Addr} {u : HO} (np : H p = none) : RelH Y r (upd H p u) h :=
  R.keep (Ext.grow np) fun a m => upd_ne fun q => R.new np (q ▸ m)
/-- .. and is tracked here -/
def Rg.add (r : Rg) (p : Addr) : Rg := ⟨r.f, r.o ++ [p]⟩
theorem Ext.growT {p : Addr} {u : HO} (np : H p = none) : Ext r H (r.add p) (upd H p u) :=
  ⟨⟨[], rfl, fun _ m => by simp at m⟩, ⟨[p], rfl⟩, fun a o e _ => by rw [upd_ne (ne_of_none e np)]; exact e, fun a m n => by
    rcases List.mem_append.mp m with m | m
    · exact absurd m n
    · rw [List.mem_singleton.mp m]; exact np, st_upd⟩
theorem RelH.growT (R : RelH Y r H h) {p : Addr} {u : HO} {o : O} (np : H p = none) (ho : RO Y (r.add p) (upd H p u) o p) : RelH Y (r.add p) (upd H p u) (h ++ [o]) := by
  have ex := Ext.growT (r := r) (u := u) np
  refine ⟨by simp [Rg.add, R.len], List.nodup_append.mpr ⟨R.nd, by simp, fun a m b m2 => ?_⟩, fun a m => ⟨fun m2 => ?_, (R.frm a m).2.grow np⟩, fun n o' a h1 h2 => ?_⟩
  · rw [List.mem_singleton.mp m2]
    exact fun q => R.new np (.inr (q ▸ m))
  · rcases List.mem_append.mp m2 with m2 | m2
    · exact (R.frm a m).1 m2
    · rw [List.mem_singleton.mp m2] at m
      exact R.new np (.inl m)
  · by_cases hn : n < h.length
    · rw [List.getElem?_append_left hn] at h1
      have hn' : n < r.o.length := by rw [R.len]; exact hn
      have h2 : (r.o ++ [p])[n]? = some a := h2
      rw [List.getElem?_append_left hn'] at h2
      exact (R.obj n o' a h1 h2).go ex.goes (upd_ne fun q => R.new np (.inr (q ▸ List.mem_of_getElem? h2)))
    · have hl : n < (h ++ [o]).length := (List.getElem?_eq_some_iff.mp h1).1
      have : n = h.length := by simp at hl; omega
      subst this
      rw [List.getElem?_append_right (Nat.le_refl _)] at h1
      have h2 : (r.o ++ [p])[h.length]? = some a := h2
      rw [List.getElem?_append_right (by rw [R.len]; exact Nat.le_refl _), R.len] at h2
      simp at h1 h2
      subst h1 h2
      exact ho
theorem RelH.last (R : RelH Y r H h) {p : Addr} : (r.add p).o[h.length]? = some p := by
  show (r.o ++ [p])[h.length]? = some p
  rw [← R.len]
  simp
/-- an object that is tracked here is written -/
theorem Ext.write {a : Addr} {u : HO} (m : a ∈ r.o) : Ext r H r (upd H a u) :=
  ⟨⟨[], by simp⟩, ⟨[], by simp⟩, fun b o e n => by rw [upd_ne (show b ≠ a from fun q => n (by rw [q]; exact m))]; exact e, fun b m n => absurd m n, st_upd⟩
theorem RelH.write (R : RelH Y r H h) {n : Nat} {a : Addr} {u : HO} {o : O} (ha : r.o[n]? = some a) (ho : RO Y r (upd H a u) o a) : RelH Y r (upd H a u) (h.set n o) := by
  have ma := List.mem_of_getElem? ha
  have ex := Ext.write (r := r) (H := H) (u := u) ma
  refine ⟨by simp [R.len], R.nd, fun b m => ⟨(R.frm b m).1, ?_⟩, fun k o' b h1 h2 => ?_⟩
  · obtain ⟨x, q, z⟩ := (R.frm b m).2
    exact ⟨x, by rw [upd_ne fun e => (R.frm b m).1 (by rw [e]; exact ma)]; exact q, z⟩
  · by_cases hk : n = k
    · subst hk
      have hl : n < h.length := by
        have := (List.getElem?_eq_some_iff.mp ha).1
        rw [R.len] at this
        exact this
      rw [List.getElem?_set_self hl] at h1
      cases h1
      rw [ha] at h2
      cases h2
      exact ho
    · rw [List.getElem?_set_ne hk] at h1
      refine (R.obj k o' b h1 h2).go ex.goes (upd_ne fun q => hk ?_)
      subst q
      obtain ⟨x1, x2⟩ := List.getElem?_eq_some_iff.mp ha
      obtain ⟨y1, y2⟩ := List.getElem?_eq_some_iff.mp h2
      exact (List.getElem_inj R.nd).mp (x2.trans y2.symm)
end

/-! ### what is wanted of a result -/
/-- an exception of the evaluator and one of the layer -/
def RX (Y : Sy) (r : Rg) (H : Hp) (c : Str) (x : Option D) (cls : Value) (d : Option Addr) : Prop :=
  Y.mg c = some cls ∧ match x with
    | none => d = none
    | some dv => ∃ da f v, d = some da ∧ (H da = some (.xd [(f, v)]) ∧ ¬ r.has da) ∧ RD Y r H dv v
theorem RX.go {Y : Sy} {r r' : Rg} {H H' : Hp} (e : Goes r H r' H') {c : Str} {x : Option D} {cls : Value} {d : Option Addr} (h : RX Y r H c x cls d) : RX Y r' H' c x cls d := by
  refine ⟨h.1, ?_⟩
  cases x with
  | none => exact h.2
  | some dv =>
    obtain ⟨da, f, v, h1, h2, h3⟩ := h.2
    exact ⟨da, f, v, h1, e.obj _ _ h2.1 h2.2, h3.go e⟩
def Post {α β : Type} (Y : Sy) (rel : Rg → Hp → α → β → Prop) (r : Rg) (H : Hp) (W : XK) (res : R α) (Q : β → Hp → Prop) : Prop := match res with
  | .ok a h' => ∀ r' H' b, Ext r H r' H' → RelH Y r' H' h' → rel r' H' a b → Q b H'
  | .exc c x h' => ∀ r' H' cls d, Ext r H r' H' → RelH Y r' H' h' → RX Y r' H' c x cls d → W cls d H'
  | .bad => False
theorem Post.shift {α β : Type} {Y : Sy} {rel : Rg → Hp → α → β → Prop} {r r1 : Rg} {H H1 : Hp} {W : XK} {res : R α} {Q : β → Hp → Prop} (p : Post Y rel r H W res Q) (e : Ext r H r1 H1) : Post Y rel r1 H1 W res Q := by
  cases res with
  | ok a h' => exact fun r' H' b e' => p r' H' b (e.trans e')
  | exc c x h' => exact fun r' H' cls d e' => p r' H' cls d (e.trans e')
  | bad => exact p
/-- the slots -/
structure RelL (Y : Sy) (r : Rg) (H : Hp) (σ : L2.St) (L : Lc) : Prop where
  len : σ.length = L.length
  get : ∀ (i : Nat) (d : D), L[i]? = some (some d) → ∃ v, σ[i]? = some (some v) ∧ RD Y r H d v
theorem RelL.mono {Y : Sy} {r r' : Rg} {H H' : Hp} {σ : L2.St} {L : Lc} (l : RelL Y r H σ L) (e : Ext r H r' H') : RelL Y r' H' σ L :=
  ⟨l.len, fun i d h => let ⟨v, h1, h2⟩ := l.get i d h; ⟨v, h1, h2.mono e⟩⟩
theorem RelL.set {Y : Sy} {r : Rg} {H : Hp} {σ : L2.St} {L : Lc} (l : RelL Y r H σ L) (i : Nat) {d : D} {v : V} (h : RD Y r H d v) : RelL Y r H (σ.set i (some v)) (L.set i (some d)) := by
  refine ⟨by simp [l.len], fun j e he => ?_⟩
  by_cases hj : i = j
  · subst hj
    obtain ⟨hl, _⟩ := List.getElem?_eq_some_iff.mp he
    simp at hl
    rw [List.getElem?_set_self hl] at he
    cases he
    exact ⟨v, List.getElem?_set_self (by rw [l.len]; exact hl), h⟩
  · rw [List.getElem?_set_ne hj] at he ⊢
    exact l.get j e he
end EV

set_option Elab.async false
set_option linter.all false
set_option maxRecDepth 100000
set_option maxHeartbeats 1000000
/-! EV: dicts whose keys are carried by value, whichever they are. -/
namespace EV
open PySem PySem.Spec PyProof.Rows L2

def leafV : V → Option PySem.Leaf
  | .non => some .none
  | .bl b => some (.num (if b = true then 1 else 0))
  | .int i => some (.num i)
  | .str x => some (.text x)
  | _ => none
theorem leaf_is {P : Program} {w : World} {x : V} {u : Value} {l : PySem.Leaf} (r : RelV x u) (h : leafV x = some l) : (leafKind P w).is l u = true := by
  cases x with
  | non => cases h; cases (show u = Value.none from r); rfl
  | bl b => cases h; cases (show u = Value.bool b from r); exact decide_eq_true rfl
  | int i => cases h; obtain ⟨t, rfl⟩ := (show ∃ t, u = Value.int i t from r); exact decide_eq_true rfl
  | str x =>
    cases h
    obtain ⟨t, rfl⟩ := (show ∃ t, u = Value.str x t from r)
    show (x == x) = true
    simp
  | _ => cases h
section
variable {X : Cx} {pins : List (Addr × Obj)} {σ : L2.St} {H : Hp} {s : Shared} {a : Addr} {lvs : List (PySem.Leaf × V)} {k : PySem.Leaf} {x y : V} {u r : Value} {A : Around} {E : Value → Shared → Prop}
theorem dl_of (I : Inv X pins σ H s) (e : H a = some (DicL X.prog X.w a lvs)) : lvs.length ≤ sizeLine ∧ (a == sysModules) = false ∧ ∃ vs, KV lvs vs ∧ s.heap.DictOf (leafKind X.prog X.w) a vs := (I.hok a _ e).1
theorem dl_new {P : Program} {w : World} {H' : Hp} {h' : Heap} {vs : List (PySem.Leaf × Value)} (z : lvs.length ≤ sizeLine) (hd : (a == sysModules) = false) (rel : KV lvs vs) (dd : h'.DictOf (leafKind P w) a vs) : ObjOk P w H' h' a (DicL P w a lvs) := by
  refine ⟨⟨z, hd, vs, rel, dd⟩, ?_, fun h1 h2 p k => ?_⟩
  · obtain ⟨o, _, _, e, _⟩ := dd
    exact ⟨o, e⟩
  · obtain ⟨z, hd, vs, rel, o, es, ep, e, q⟩ := p
    exact ⟨z, hd, vs, rel, o, es, ep, k o e, q⟩
theorem dl_at (I : Inv X pins σ H s) (e : H a = some (DicL X.prog X.w a lvs)) : s.TypeIs (.ref a) "dict" ∧ (∀ b, Value.ref a = .ref b → ∃ ob, s.heap.get? b = some ob ∧ ob.dict = none) := by
  obtain ⟨z, hd, vs, rel, dd⟩ := dl_of I e
  refine ⟨dd.typeIs, fun b q => ?_⟩
  cases q
  obtain ⟨ob, _, _, h1, h2, _⟩ := dd
  exact ⟨ob, h1, h2.2.1⟩
theorem dl_getItem {v : V} {Q : Value → Shared → Prop} (I : Inv X pins σ H s) (e : H a = some (DicL X.prog X.w a lvs)) (ry : RelV y u) (hk : leafV y = some k) (hv : valV lvs k = some v) (h : ∀ w' s', Inv X pins σ H s' → RelV v w' → Q w' s') :
    wpAny (model X.prog X.w) A (getItem (.ref a) u) Q E s := by
  obtain ⟨z, hd, vs, rel, dd⟩ := dl_of I e
  obtain ⟨w', hw, rw'⟩ := RelO.some_of (v := v) (o := valueAt vs k) (by rw [← hv]; exact rel.val k)
  exact wpAny_getItem_of (leaf_is ry hk) dd.mapOf hw (h w' _ (I.tok _) rw')
theorem dl_in {Q : Value → Shared → Prop} (I : Inv X pins σ H s) (e : H a = some (DicL X.prog X.w a lvs)) (ry : RelV y u) (hk : leafV y = some k) (h : ∀ s', Inv X pins σ H s' → Q (.bool (valV lvs k).isSome) s') :
    wpAny (model X.prog X.w) A (compareOp .In u (.ref a)) Q E s := by
  obtain ⟨z, hd, vs, rel, dd⟩ := dl_of I e
  refine wpAny_in_of (leaf_is ry hk) hd dd.mapOf ?_
  rw [← (rel.val k).isSome_eq]
  exact h _ (I.tok _)
theorem dl_notIn {Q : Value → Shared → Prop} (I : Inv X pins σ H s) (e : H a = some (DicL X.prog X.w a lvs)) (ry : RelV y u) (hk : leafV y = some k) (h : ∀ s', Inv X pins σ H s' → Q (.bool (!(valV lvs k).isSome)) s') :
    wpAny (model X.prog X.w) A (compareOp .NotIn u (.ref a)) Q E s := by
  obtain ⟨z, hd, vs, rel, dd⟩ := dl_of I e
  refine wpAny_notIn_of (leaf_is ry hk) hd dd.mapOf ?_
  rw [← (rel.val k).isSome_eq]
  exact h _ (I.tok _)
theorem dl_setItem {v : V} {Q : Unit → Shared → Prop} (I : Inv X pins σ H s) (e : H a = some (DicL X.prog X.w a lvs)) (ry : RelV y u) (hk : leafV y = some k) (rv : RelV v r) (hl : lvs.length < sizeLine)
    (h : ∀ s', Inv X pins σ (upd H a (DicL X.prog X.w a (putK lvs k v))) s' → Q () s') : wpAny (model X.prog X.w) A (setItem (.ref a) u r) Q E s := by
  obtain ⟨z, hd, vs, rel, dd⟩ := dl_of I e
  have hz : vs.length ≤ sizeLine := by rw [← rel.length]; exact z
  have hl : (putK lvs k v).length ≤ sizeLine := by have := length_putK lvs k v; omega
  refine wpAny_setItem_pairs (hsz := hz) (leaf_is ry hk) dd fun h' dd' hs => h _ ?_
  have he : ∃ q, h'.get? a = some q := let ⟨q, _, _, hq, _⟩ := dd'; ⟨q, hq⟩
  exact d_write I (by rw [e]; exact True.intro) hs he (dl_new hl hd (rel.put k rv) dd')
theorem dl_len {Q : Value → Shared → Prop} (I : Inv X pins σ H s) (e : H a = some (DicL X.prog X.w a lvs)) (h : ∀ t s', Inv X pins σ H s' → Q (.int lvs.length t) s') : wpAny (model X.prog X.w) A (call (.builtin "len") [.ref a]) Q E s := by
  obtain ⟨z, hd, vs, rel, dd⟩ := dl_of I e
  refine call_len_dict hd dd (by rw [← rel.length]; rw [sizeLine_eq] at z; omega) ?_
  rw [← rel.length]
  exact h _ _ (I.tok _)
theorem dl_get2 {d : V} {Q : Value → Shared → Prop} (I : Inv X pins σ H s) (e : H a = some (DicL X.prog X.w a lvs)) (ry : RelV y u) (hk : leafV y = some k) (rd : RelV d r) (h : ∀ w' s', Inv X pins σ H s' → RelV ((valV lvs k).getD d) w' → Q w' s') :
    wpAny (model X.prog X.w) A (call (.builtin "dict.get") [.ref a, u, r]) Q E s := by
  obtain ⟨z, hd, vs, rel, dd⟩ := dl_of I e
  exact call_meetsIn PySem.F.slot_dict_get dd.typeIs PySem.F.entry_dict_get (PySem.F.args_dict_get_3 _ _ _) (meets_dict_get_default (leafKind X.prog X.w) a (leaf_is ry hk) hd r) ⟨_, dd.mapOf, h _ _ (I.tok _) ((rel.val k).getD rd)⟩
theorem dl_get1 {Q : Value → Shared → Prop} (I : Inv X pins σ H s) (e : H a = some (DicL X.prog X.w a lvs)) (ry : RelV y u) (hk : leafV y = some k) (h : ∀ w' s', Inv X pins σ H s' → RelV ((valV lvs k).getD .non) w' → Q w' s') :
    wpAny (model X.prog X.w) A (call (.builtin "dict.get") [.ref a, u]) Q E s := by
  obtain ⟨z, hd, vs, rel, dd⟩ := dl_of I e
  exact call_meetsIn PySem.F.slot_dict_get dd.typeIs PySem.F.entry_dict_get (PySem.F.args_dict_get_2 _ _) (meets_dict_get (leafKind X.prog X.w) a (leaf_is ry hk) hd) ⟨_, dd.mapOf, h _ _ (I.tok _) ((rel.val k).getD rfl)⟩
theorem pe_dnewL {pos : Pos} : PE X (.Dict [] [] pos) (fun _ H Q => ∀ p, H p = none → Q (.ref p) (upd H p (DicL X.prog X.w p []))) := ⟨fun pins s σ H Q I h =>
  wpAny_Dict_empty ⟨.ref s.heap.objs.size, _, I.laid (a := s.heap.objs.size) (o := DicL X.prog X.w s.heap.objs.size []) (t' := s.toks) (fun _ _ q => Heap.get?_push_of_some _ q) (Nat.le_refl _)
    (dl_new (Nat.zero_le _) (beq_eq_false_iff_ne.mpr (Ne.symm (Nat.ne_of_lt I.big))) .nil (Heap.DictOf.new s.heap)), rfl, h _ (I.hok.fresh (Nat.le_refl _))⟩⟩
theorem KV.vals {lvs : List (PySem.Leaf × V)} {vs : List (PySem.Leaf × Value)} (r : KV lvs vs) : Vals (lvs.map (·.2)) (vs.map (·.2)) := by
  induction r with
  | nil => exact .nil
  | cons h t ih => exact .cons h.2 ih
/-- list(d.values()) -/
theorem dl_vals {Q : VK} (hc : X.calm = true) (I : Inv X pins σ H s) (e : H a = some (DicL X.prog X.w a lvs)) (h : ∀ p, H p = none → Q (.ref p) (upd H p (.lst (lvs.map (·.2))))) :
    wpAny (model X.prog X.w) X.A (call (.builtin "dict.values") [.ref a]) (fun v s' => wpAny (model X.prog X.w) X.A (call (.type "list") [v]) (EP X pins σ Q) X.xe s') X.xe s := by
  obtain ⟨z, hd, vs, rel, dd⟩ := dl_of I e
  obtain ⟨ep, dat⟩ := dd.dictAt
  refine call_meetsIn F.slot_dict_values dd.typeIs F.entry_dict_values (F.args_dict_values_1 _) (meets_dict_values (leafKind X.prog X.w) a hd) ⟨⟨vs, dd⟩, ?_⟩
  have k1 : ∀ b u, s.heap.get? b = some u → (s.heap.push { cls := .type "dict_values", data := .fields #[.ref a] }).get? b = some u := fun b u e => Heap.get?_push_of_some _ e
  have dat1 : (s.heap.push { cls := .type "dict_values", data := .fields #[.ref a] }).DictAt (leafKind X.prog X.w) a vs ep := dat.keep k1
  refine PySem.W.kdl_call (s := { s with heap := s.heap.push { cls := .type "dict_values", data := .fields #[.ref a] } }) (PySem.W.kdl_values (r := s.heap.objs.size) (ep := ep)) (I.ok.hd hc) ⟨⟨_, Heap.get?_push_size _ rfl, rfl, rfl⟩, dat1⟩ (by rw [← rel.length]; exact z) fun h' tk acc' c' hk hS hacc => ?_
  have I1 : Inv X pins σ H { s with heap := s.heap.push { cls := .type "dict_values", data := .fields #[.ref a] } } := I.kept (t' := s.toks) k1
  have hv : acc'.toList = vs.map (·.2) := by
    refine List.ext_getElem? fun i => ?_
    rw [Array.getElem?_toList]
    cases q : acc'[i]? with
    | some v =>
      obtain ⟨k, hk⟩ := hacc.2 i v q
      rw [List.getElem?_map, hk]
      rfl
    | none =>
      have hl : acc'.size ≤ i := Array.getElem?_eq_none_iff.mp q
      rw [hacc.1] at hl
      rw [List.getElem?_eq_none (by simpa using hl)]
  have hr : Vals (lvs.map (·.2)) acc'.toList := by rw [hv]; exact KV.vals rel
  refine ⟨.ref _, _, I1.laid (t' := tk) (a := (s.heap.push { cls := .type "dict_values", data := .fields #[.ref a] }).objs.size) (o := .lst (lvs.map (·.2))) hk (Nat.le_refl _) ⟨by rw [List.length_map]; exact z, acc'.toList, c', hr, ?_⟩, rfl, h _ (I1.hok.fresh (Nat.le_refl _))⟩
  rw [Array.toArray_toList]
  exact hS
end
end EV

set_option Elab.async false
set_option linter.all false
set_option maxRecDepth 100000
set_option maxHeartbeats 1000000
/-! EV 2: the evaluator's operations are the layer's. -/
namespace EV
open PySem PySem.Spec PyProof.Rows L2

abbrev sy (X : Cx) : Sy := ⟨X.prog, X.w, X.K, X.mg⟩
theorem PE.imp {X : Cx} {e : Expr} {t t' : TE} (h : PE X e t) (f : ∀ σ H Q, t' σ H Q → t σ H Q) : PE X e t' := ⟨fun pins s σ H Q I q => h.run pins s σ H Q I (f σ H Q q)⟩
theorem PT.imp {X : Cx} {e : Expr} {t t' : TT} (h : PT X e t) (f : ∀ σ H Q, t' σ H Q → t σ H Q) : PT X e t' := ⟨fun pins s σ H Q I q => h.run pins s σ H Q I (f σ H Q q)⟩
theorem PW.imp {X : Cx} {e : Expr} {t t' : TT} (h : PW X e t) (f : ∀ σ H Q, t' σ H Q → t σ H Q) : PW X e t' := ⟨fun wh pins s σ H Q I q => h.run wh pins s σ H Q I (f σ H Q q)⟩
theorem PA.imp {X : Cx} {e : List Expr} {t t' : TA} (h : PA X e t) (f : ∀ σ H Q, t' σ H Q → t σ H Q) : PA X e t' := ⟨fun pos pins s σ H Q I q => h.run pos pins s σ H Q I (f σ H Q q)⟩
theorem PS.imp {X : Cx} {e : Stmt} {t t' : TS} (h : PS X e t) (f : ∀ D σ H, t' D σ H → t D σ H) : PS X e t' := ⟨fun pins s σ H Q I q => h.run pins s σ H Q I (f Q σ H q)⟩
theorem PSs.imp {X : Cx} {e : List Stmt} {t t' : TS} (h : PSs X e t) (f : ∀ D σ H, t' D σ H → t D σ H) : PSs X e t' := ⟨fun pins s σ H Q I q => h.run pins s σ H Q I (f Q σ H q)⟩
theorem PI.imp {X : Cx} {tg e : Expr} {t t' : TI} (h : PI X tg e t) (f : ∀ σ H Q, t' σ H Q → t σ H Q) : PI X tg e t' := ⟨fun pins s σ H Q I q => h.run pins s σ H Q I (f σ H Q q)⟩

section
variable {α β γ δ : Type} {Y : Sy} {rel : Rg → Hp → α → β → Prop} {rel2 : Rg → Hp → γ → δ → Prop} {r : Rg} {H : Hp} {W : XK}
theorem Post.imp {res : R α} {Q Q' : β → Hp → Prop} (p : Post Y rel r H W res Q) (f : ∀ b H', Q b H' → Q' b H') : Post Y rel r H W res Q' := by
  cases res with
  | ok a h' => exact fun r' H' b e R q => f _ _ (p r' H' b e R q)
  | exc c x h' => exact p
  | bad => exact p
/-- in the middle: a part is done, the rest is wanted -/
def Mid (Y : Sy) (rel : Rg → Hp → α → β → Prop) (rel2 : Rg → Hp → γ → δ → Prop) (r : Rg) (H : Hp) (W : XK) (res : R α) (f : α → Hs → R γ) (Q : δ → Hp → Prop) (b : β) (H1 : Hp) : Prop :=
  ∃ r1 a h1, res = .ok a h1 ∧ Ext r H r1 H1 ∧ RelH Y r1 H1 h1 ∧ rel r1 H1 a b ∧ Post Y rel2 r H W (f a h1) Q
theorem bindP {res : R α} {f : α → Hs → R γ} {Q : δ → Hp → Prop} (p : Post Y rel2 r H W (res.bind f) Q) : Post Y rel r H W res (Mid Y rel rel2 r H W res f Q) := by
  cases res with
  | ok a h' => exact fun r' H' b e R q => ⟨r', a, h', rfl, e, R, q, p⟩
  | exc c x h' => exact p
  | bad => exact p
/-- no exception -/
def Pok (Y : Sy) (rel : Rg → Hp → α → β → Prop) (r : Rg) (H : Hp) (res : R α) (Q : β → Hp → Prop) : Prop := match res with
  | .ok a h' => ∀ r' H' b, Ext r H r' H' → RelH Y r' H' h' → rel r' H' a b → Q b H'
  | _ => False
def NoX (res : R α) : Prop := ∀ c x h, res ≠ .exc c x h
theorem Post.pok {res : R α} {Q : β → Hp → Prop} (p : Post Y rel r H W res Q) (n : NoX res) : Pok Y rel r H res Q := by
  cases res with
  | ok a h' => exact p
  | exc c x h' => exact absurd rfl (n c x h')
  | bad => exact p
theorem Pok.bad {Q : β → Hp → Prop} (p : Pok Y rel r H (.bad : R α) Q) : False := p
end

section
variable {Y : Sy} {r : Rg} {H : Hp} {h : Hs} {Q : VK}
theorem Pok.here {d : D} {v : V} (p : Pok Y (RD Y) r H (.ok d h) Q) (R : RelH Y r H h) (hv : RD Y r H d v) : Q v H := p r H v (Ext.refl _ _) R hv
/-- a new tuple -/
theorem Pok.tup {ds : List D} {vs : List V} (p : Pok Y (RD Y) r H (.ok (.tup ds) h) Q) (R : RelH Y r H h) (hv : RDs Y r H ds vs) : ∀ a, H a = none → Q (.ref a) (upd H a (.tup vs)) := fun a na => by
  have ex := Ext.grow (r := r) (u := .tup vs) na
  refine p r _ (.ref a) ex (R.grow na) ?_
  simp only [RD]
  exact ⟨a, vs, rfl, .inl ⟨upd_same, R.new na⟩, hv.mono ex⟩
/-- a new list -/
theorem Pok.lstT {ds : List D} {vs : List V} (p : Pok Y (RD Y) r H (.ok (.loc h.length) (h ++ [.lst ds])) Q) (R : RelH Y r H h) (hv : RDs Y r H ds vs) : ∀ a, H a = none → Q (.ref a) (upd H a (.lst vs)) := fun a na => by
  have ex := Ext.growT (r := r) (u := .lst vs) na
  refine p (r.add a) _ (.ref a) ex (R.growT na ⟨vs, upd_same, hv.mono ex⟩) ?_
  simp only [RD]
  exact ⟨a, rfl, R.last⟩
theorem Pok.lstF {ds : List D} {vs : List V} (p : Pok Y (RD Y) r H (.ok (.lst ds) h) Q) (R : RelH Y r H h) (hv : RDs Y r H ds vs) : ∀ a, H a = none → Q (.ref a) (upd H a (.lst vs)) := fun a na => by
  have ex := Ext.grow (r := r) (u := .lst vs) na
  refine p r _ (.ref a) ex (R.grow na) ?_
  simp only [RD]
  exact ⟨a, vs, rfl, ⟨.inl upd_same, R.new na⟩, hv.mono ex⟩
theorem ble_lim {n : Nat} (h : Nat.ble n lim = true) : n ≤ sizeLine := by
  have := Nat.le_of_ble_eq_true h
  rw [sizeLine_eq]
  exact this
theorem blt_lim {n : Nat} (h : Nat.blt n lim = true) : n < sizeLine := by
  have : n + 1 ≤ lim := Nat.le_of_ble_eq_true h
  rw [sizeLine_eq]
  exact this
theorem Pok.newT {ds : List D} {vs : List V} (p : Pok Y (RD Y) r H (newT ds h) Q) (R : RelH Y r H h) (hv : RDs Y r H ds vs) : vs.length ≤ sizeLine ∧ ∀ a, H a = none → Q (.ref a) (upd H a (.tup vs)) := by
  unfold EV.newT at p
  split at p
  · rename_i hl
    exact ⟨by rw [hv.length]; exact ble_lim hl, p.tup R hv⟩
  · exact p.elim
theorem Pok.newL {m : Bool} {ds : List D} {vs : List V} (p : Pok Y (RD Y) r H (newL m ds h) Q) (R : RelH Y r H h) (hv : RDs Y r H ds vs) : vs.length ≤ sizeLine ∧ ∀ a, H a = none → Q (.ref a) (upd H a (.lst vs)) := by
  unfold EV.newL at p
  split at p
  · rename_i hl
    refine ⟨by rw [hv.length]; exact ble_lim hl, ?_⟩
    cases m with
    | true => exact p.lstT R hv
    | false => exact p.lstF R hv
  · exact p.elim
/-- a list at a place -/
theorem RelH.lst (R : RelH Y r H h) {n : Nat} {xs : List D} {a : Addr} (e : h[n]? = some (.lst xs)) (ha : r.o[n]? = some a) : ∃ vs, H a = some (.lst vs) ∧ RDs Y r H xs vs := R.obj n _ a e ha
/-- a list's items -/
theorem RelH.lstI (R : RelH Y r H h) {d : D} {v : V} {xs : List D} (hv : RD Y r H d v) (e : lstI h d = some xs) : ∃ a vs, v = .ref a ∧ LstO H a vs ∧ RDs Y r H xs vs := by
  cases d with
  | lst ds =>
    simp only [EV.lstI, Option.some.injEq] at e
    subst e
    obtain ⟨a, vs, rfl, ht, hr⟩ := hv.lst_inv
    exact ⟨a, vs, rfl, ht.1, hr⟩
  | loc n =>
    obtain ⟨a, rfl, ha⟩ := hv.loc_inv
    simp only [EV.lstI] at e
    split at e
    · rename_i ys q
      cases e
      obtain ⟨vs, h1, h2⟩ := R.lst q ha
      exact ⟨a, vs, rfl, .inl h1, h2⟩
    · cases e
  | _ => simp only [EV.lstI] at e; cases e
/-- the items of a list or a tuple -/
theorem RelH.items (R : RelH Y r H h) {d : D} {v : V} {xs : List D} (hv : RD Y r H d v) (e : items h d = some xs) : ∃ a vs, v = .ref a ∧ (SqL Y.K H a vs ∨ SqT Y.K H a vs) ∧ RDs Y r H xs vs := by
  have key : EV.lstI h d = some xs → ∃ a vs, v = .ref a ∧ (SqL Y.K H a vs ∨ SqT Y.K H a vs) ∧ RDs Y r H xs vs := fun e => by
    obtain ⟨a, vs, h1, h2, h3⟩ := R.lstI hv e
    exact ⟨a, vs, h1, .inl h2.sq, h3⟩
  cases d with
  | tup ds =>
    simp only [EV.items, Option.some.injEq] at e
    subst e
    obtain ⟨a, vs, rfl, ht, hr⟩ := hv.tup_inv
    exact ⟨a, vs, rfl, .inr ht.sq, hr⟩
  | lst ds => exact key e
  | loc n => exact key e
  | _ => exact key e
end

/-! ### operators -/
def rBin (Y : Sy) (op : Operator) : R2 := fun x y H Q => ∃ r a b h, RelH Y r H h ∧ RD Y r H a x ∧ RD Y r H b y ∧ Pok Y (RD Y) r H (opBin op a b h) Q
theorem noX_ite {α : Type} {c : Bool} {a b : R α} (ha : NoX a) (hb : NoX b) : NoX (if c = true then a else b) := by
  cases c
  · simpa using hb
  · simpa using ha
theorem noX_ok {α : Type} {a : α} {h : Hs} : NoX (.ok a h) := fun _ _ _ e => nomatch e
theorem noX_bad {α : Type} : NoX (.bad : R α) := fun _ _ _ e => nomatch e
theorem noX_newT {xs : List D} {h : Hs} : NoX (newT xs h) := noX_ite noX_ok noX_bad
theorem noX_newL {m : Bool} {xs : List D} {h : Hs} : NoX (newL m xs h) := by
  cases m <;> exact noX_ite noX_ok noX_bad
theorem noX_bin {op : Operator} {a b : D} {h : Hs} : NoX (opBin op a b h) := by
  unfold opBin
  repeat' split
  all_goals first | exact noX_ok | exact noX_bad | exact noX_newT | exact noX_newL
section
variable {X : Cx}
def rCatS : R2 := fun x y H Q => ∃ l b xs zs, x = .ref l ∧ y = .ref b ∧ LstO H l xs ∧ LstO H b zs ∧ xs.length + zs.length ≤ sizeLine ∧ ∀ p, H p = none → Q (.ref p) (upd H p (.lst (xs ++ zs)))
theorem op_catS : OpR X (binaryOp .Add) rCatS := by
  intro pins s σ H x y v u Q I rx ry h
  obtain ⟨l, b, xs, zs, rfl, rfl, hH, hB, hz, q⟩ := h
  cases rx
  cases ry
  obtain ⟨z, its, n, r, e⟩ := Rd.ok (show Rd H l (.lst xs) from hH) I.hok
  obtain ⟨z2, its2, n2, r2, e2⟩ := Rd.ok (show Rd H b (.lst zs) from hB) I.hok
  have l1 := r.length
  have l2 := r2.length
  refine PySem.P.add_list e e2 ?_ (by rw [List.size_toArray, List.size_toArray]; omega)
  have ea : its.toArray ++ its2.toArray = (its ++ its2).toArray := by simp
  rw [ea]
  exact ⟨.ref _, _, I.lnew (t' := s.toks) (r.append r2) (by rw [List.length_append]; omega), rfl, q _ I.fresh⟩
theorem op_bin (op : Operator) : OpR X (binaryOp op) (rBin (sy X) op) := by
  intro pins s σ H x y v u Q I rx ry q
  obtain ⟨r, a, b, h, R, ha, hb, p⟩ := q
  cases op
  case Add =>
    have cat : Pok (sy X) (RD (sy X)) r H (match lstI h a, lstI h b with
        | some xs, some ys => newL false (xs ++ ys) h
        | _, _ => .bad) Q → wpAny (model X.prog X.w) X.A (binaryOp .Add v u) (EP X pins σ Q) X.xe s := fun p => by
      split at p
      · rename_i xs ys q1 q2
        obtain ⟨a, vs, rfl, h1, h2⟩ := R.lstI ha q1
        obtain ⟨b, us, rfl, h3, h4⟩ := R.lstI hb q2
        obtain ⟨hl, q⟩ := p.newL R (h2.append h4)
        exact op_catS pins s σ H _ _ v u Q I rx ry ⟨a, b, vs, us, rfl, rfl, h1, h3, by simpa using hl, q⟩
      · exact p.elim
    cases a with
    | int i =>
      cases b with
      | int j =>
        rw [ha.int_inv] at rx
        rw [hb.int_inv] at ry
        exact op_add pins s σ H _ _ v u Q I rx ry ⟨i, j, rfl, rfl, p.here R RD.int'⟩
      | _ => exact cat p
    | tup xs =>
      cases b with
      | tup ys =>
        obtain ⟨a, vs, rfl, ht, hr⟩ := ha.tup_inv
        obtain ⟨b, us, rfl, hu, hs⟩ := hb.tup_inv
        have p : Pok (sy X) (RD (sy X)) r H (newT (xs ++ ys) h) Q := p
        obtain ⟨hl, q⟩ := p.newT R (hr.append hs)
        refine op_catA pins s σ H _ _ v u Q I rx ry ⟨a, b, vs, us, rfl, rfl, ht.sq, hu.sq, by simpa using hl, fun e => ?_, fun _ e => ?_, fun _ _ => q⟩
        · subst e
          have e : xs = [] := List.eq_nil_of_length_eq_zero hr.length.symm
          subst e
          unfold EV.newT at p
          split at p
          · exact p.here R (by simpa only [List.nil_append] using hb)
          · exact p.elim
        · subst e
          have e : ys = [] := List.eq_nil_of_length_eq_zero hs.length.symm
          subst e
          unfold EV.newT at p
          split at p
          · exact p.here R (by simpa only [List.append_nil] using ha)
          · exact p.elim
      | _ => exact cat p
    | str x =>
      cases b with
      | str y =>
        rw [ha.str_inv] at rx
        rw [hb.str_inv] at ry
        have p : Pok (sy X) (RD (sy X)) r H (if Nat.ble (x.length + y.length) lim then .ok (.str (x ++ y)) h else .bad) Q := p
        split at p
        · rename_i hl
          exact op_add_str pins s σ H _ _ v u Q I rx ry ⟨x, y, rfl, rfl, ble_lim hl, p.here R RD.str'⟩
        · exact p.elim
      | _ => exact cat p
    | _ => exact cat p
  case Sub =>
    cases a with
    | int i =>
      cases b with
      | int j =>
        rw [ha.int_inv] at rx
        rw [hb.int_inv] at ry
        exact op_sub pins s σ H _ _ v u Q I rx ry ⟨i, j, rfl, rfl, p.here R RD.int'⟩
      | _ => exact p.elim
    | _ => exact p.elim
  case Mult =>
    cases a with
    | int i =>
      cases b with
      | int j =>
        rw [ha.int_inv] at rx
        rw [hb.int_inv] at ry
        have p : Pok (sy X) (RD (sy X)) r H (if cmulB i j then .ok (.int (i * j)) h else .bad) Q := p
        split at p
        · rename_i hc
          refine op_mul pins s σ H _ _ v u Q I rx ry ⟨i, j, rfl, rfl, ?_, p.here R RD.int'⟩
          simpa only [CMul, cmulB, Bool.or_eq_true, Bool.and_eq_true, decide_eq_true_eq] using hc
        · exact p.elim
      | _ => exact p.elim
    | _ => exact p.elim
  case FloorDiv =>
    cases a with
    | int i =>
      cases b with
      | int j =>
        rw [ha.int_inv] at rx
        rw [hb.int_inv] at ry
        have p : Pok (sy X) (RD (sy X)) r H (if decide (0 < j) && decide (j < 1073741824) then .ok (.int (i / j)) h else .bad) Q := p
        split at p
        · rename_i hc
          refine op_fdiv pins s σ H _ _ v u Q I rx ry ⟨i, j, rfl, rfl, ?_, p.here R RD.int'⟩
          simpa only [CDiv, Bool.and_eq_true, decide_eq_true_eq] using hc
        · exact p.elim
      | _ => exact p.elim
    | _ => exact p.elim
  case Mod =>
    cases a with
    | int i =>
      cases b with
      | int j =>
        rw [ha.int_inv] at rx
        rw [hb.int_inv] at ry
        have p : Pok (sy X) (RD (sy X)) r H (if decide (0 < j) then .ok (.int (i % j)) h else .bad) Q := p
        split at p
        · rename_i hc
          refine op_mod pins s σ H _ _ v u Q I rx ry ⟨i, j, rfl, rfl, ?_, p.here R RD.int'⟩
          simpa only [decide_eq_true_eq] using hc
        · exact p.elim
      | _ => exact p.elim
    | _ => exact p.elim
  case Pow =>
    cases a with
    | int i =>
      cases b with
      | int j =>
        rw [ha.int_inv] at rx
        rw [hb.int_inv] at ry
        have p : Pok (sy X) (RD (sy X)) r H (if decide (0 ≤ j) && decide (j ≤ 1000000) && decide (i.natAbs < 2 ^ 64) then .ok (.int (i ^ j.toNat)) h else .bad) Q := p
        split at p
        · rename_i hc
          refine op_pow pins s σ H _ _ v u Q I rx ry ⟨i, j, rfl, rfl, ?_, p.here R RD.int'⟩
          simp only [Bool.and_eq_true, decide_eq_true_eq] at hc
          exact ⟨hc.1.1, hc.1.2, hc.2⟩
        · exact p.elim
      | _ => exact p.elim
    | _ => exact p.elim
  all_goals exact p.elim
end

/-! ### comparisons -/
section
variable {Y : Sy} {r : Rg} {H : Hp} {h : Hs}
mutual
theorem dp_of {res : Nat → Option PyData} (hres : ∀ n p v, res n = some p → RD Y r H (.loc n) v → Dp Y.K H v p) : ∀ {d : D} {v : V} {p : PyData}, RD Y r H d v → pyOf res d = some p → Dp Y.K H v p
  | .non, v, p, h, e => by simp only [pyOf, Option.some.injEq] at e; subst e; rw [h.non_inv]; exact .non
  | .bl b, v, p, h, e => by simp only [pyOf, Option.some.injEq] at e; subst e; rw [h.bl_inv]; exact .bl b
  | .int i, v, p, h, e => by simp only [pyOf, Option.some.injEq] at e; subst e; rw [h.int_inv]; exact .int i
  | .str x, v, p, h, e => by simp only [pyOf, Option.some.injEq] at e; subst e; rw [h.str_inv]; exact .str x
  | .tup ds, v, p, h, e => by
    simp only [pyOf, Option.map_eq_some_iff] at e
    obtain ⟨ps, e, rfl⟩ := e
    obtain ⟨a, vs, rfl, ht, hr⟩ := h.tup_inv
    exact .tup ht.sq (dps_of hres hr e)
  | .lst ds, v, p, h, e => by
    simp only [pyOf, Option.map_eq_some_iff] at e
    obtain ⟨ps, e, rfl⟩ := e
    obtain ⟨a, vs, rfl, ht, hr⟩ := h.lst_inv
    exact .lst ht.1.sq (dps_of hres hr e)
  | .loc n, v, p, h, e => hres n p v (by simpa only [pyOf] using e) h
  | .dic _ _, v, p, h, e => by simp only [pyOf] at e; cases e
  | .obj _ _ _, v, p, h, e => by simp only [pyOf] at e; cases e
  | .ty n, v, p, h, e => by simp only [pyOf] at e; cases e
  | .glo x, v, p, h, e => by simp only [pyOf] at e; cases e
theorem dps_of {res : Nat → Option PyData} (hres : ∀ n p v, res n = some p → RD Y r H (.loc n) v → Dp Y.K H v p) : ∀ {ds : List D} {vs : List V} {ps : List PyData}, RDs Y r H ds vs → pysOf res ds = some ps → DpAll Y.K H vs ps
  | [], vs, ps, h, e => by simp only [pysOf, Option.some.injEq] at e; subst e; rw [h.nil_inv]; exact .nil
  | d :: ds, vs, ps, h, e => by
    obtain ⟨v, t, rfl, h1, h2⟩ := h.cons_inv
    simp only [pysOf] at e
    split at e
    · rename_i p q
      split at e
      · rename_i ps' q'
        cases e
        exact .cons (dp_of hres h1 q) (dps_of hres h2 q')
      · cases e
    · cases e
end
theorem resN_ok (R : RelH Y r H h) : ∀ (f n : Nat) (p : PyData) (v : V), resN h f n = some p → RD Y r H (.loc n) v → Dp Y.K H v p
  | 0, n, p, v, e, _ => by simp only [resN] at e; cases e
  | f + 1, n, p, v, e, hv => by
    obtain ⟨a, rfl, ha⟩ := hv.loc_inv
    simp only [resN] at e
    split at e
    · rename_i xs q
      simp only [Option.map_eq_some_iff] at e
      obtain ⟨ps, e, rfl⟩ := e
      obtain ⟨vs, h1, h2⟩ := R.lst q ha
      exact .lst (SqL.of h1) (dps_of (resN_ok R f) h2 e)
    · cases e
theorem toP_ok (R : RelH Y r H h) {d : D} {v : V} {p : PyData} (hv : RD Y r H d v) (e : toP h d = some p) : Dp Y.K H v p := dp_of (fun n p v => resN_ok R 4 n p v) hv e
/-- flat values -/
theorem flat_V {d : D} {v : V} (hv : RD Y r H d v) (f : flat d = true) : flatV v = true := by
  cases d with
  | non => rw [hv.non_inv]; rfl
  | bl b => rw [hv.bl_inv]; rfl
  | int i => rw [hv.int_inv]; rfl
  | str x => rw [hv.str_inv]; rfl
  | _ => cases f
theorem feq_V {d e : D} {v u : V} (hv : RD Y r H d v) (hu : RD Y r H e u) (f : flat d = true) (g : flat e = true) : eqV v u = feq d e := by
  cases d with
  | non => rw [hv.non_inv]; cases e with
    | non => rw [hu.non_inv]; rfl
    | bl b => rw [hu.bl_inv]; rfl
    | int i => rw [hu.int_inv]; rfl
    | str x => rw [hu.str_inv]; rfl
    | _ => cases g
  | bl b => rw [hv.bl_inv]; cases e with
    | non => rw [hu.non_inv]; rfl
    | bl b => rw [hu.bl_inv]; rfl
    | int i => rw [hu.int_inv]; rfl
    | str x => rw [hu.str_inv]; rfl
    | _ => cases g
  | int i => rw [hv.int_inv]; cases e with
    | non => rw [hu.non_inv]; rfl
    | bl b => rw [hu.bl_inv]; rfl
    | int i => rw [hu.int_inv]; rfl
    | str x => rw [hu.str_inv]; rfl
    | _ => cases g
  | str x => rw [hv.str_inv]; cases e with
    | non => rw [hu.non_inv]; rfl
    | bl b => rw [hu.bl_inv]; rfl
    | int i => rw [hu.int_inv]; rfl
    | str x => rw [hu.str_inv]; rfl
    | _ => cases g
  | _ => cases f
theorem flats_V : ∀ {ds : List D} {vs : List V}, RDs Y r H ds vs → ds.all flat = true → vs.all flatV = true
  | [], vs, h, _ => by rw [h.nil_inv]; rfl
  | d :: ds, vs, h, f => by
    obtain ⟨v, t, rfl, h1, h2⟩ := h.cons_inv
    rw [List.all_cons, Bool.and_eq_true] at f
    rw [List.all_cons, flat_V h1 f.1, flats_V h2 f.2]
    rfl
theorem any_V {a : D} {x : V} (ha : RD Y r H a x) (fa : flat a = true) : ∀ {ds : List D} {vs : List V}, RDs Y r H ds vs → ds.all flat = true → (vs.any fun y => eqV y x) = ds.any fun y => feq y a
  | [], vs, h, _ => by rw [h.nil_inv]; rfl
  | d :: ds, vs, h, f => by
    obtain ⟨v, t, rfl, h1, h2⟩ := h.cons_inv
    rw [List.all_cons, Bool.and_eq_true] at f
    rw [List.any_cons, List.any_cons, feq_V h1 ha f.1 fa, any_V ha fa h2 f.2]
end
section
variable {X : Cx}
theorem flat_scal {x y : V} (fx : flatV x = true) (fy : flatV y = true) : (scal x y = true ∧ decide (x = y) = eqV x y) ∨ (∃ b i, x = .bl b ∧ y = .int i) ∨ ∃ i b, x = .int i ∧ y = .bl b := by
  cases x with
  | non => cases y with
    | non => exact .inl ⟨rfl, rfl⟩
    | bl b => exact .inl ⟨rfl, rfl⟩
    | int i => exact .inl ⟨rfl, rfl⟩
    | str x => exact .inl ⟨rfl, rfl⟩
    | _ => cases fy
  | bl a => cases y with
    | non => exact .inl ⟨rfl, rfl⟩
    | bl b => exact .inl ⟨rfl, dec_bl⟩
    | int i => exact .inr (.inl ⟨a, i, rfl, rfl⟩)
    | str x => exact .inl ⟨rfl, rfl⟩
    | _ => cases fy
  | int a => cases y with
    | non => exact .inl ⟨rfl, rfl⟩
    | bl b => exact .inr (.inr ⟨a, b, rfl, rfl⟩)
    | int i => exact .inl ⟨rfl, dec_int⟩
    | str x => exact .inl ⟨rfl, rfl⟩
    | _ => cases fy
  | str a => cases y with
    | non => exact .inl ⟨rfl, rfl⟩
    | bl b => exact .inl ⟨rfl, rfl⟩
    | int i => exact .inl ⟨rfl, rfl⟩
    | str x => exact .inl ⟨rfl, dec_str⟩
    | _ => cases fy
  | _ => cases fx
theorem op_eq_flat {pins : List (Addr × Obj)} {s : Shared} {σ : L2.St} {H : Hp} {x y : V} {v u : Value} {Q : VK} (hu : X.A.units + 64 < cLine) (I : Inv X pins σ H s) (rx : RelV x v) (ry : RelV y u) (fx : flatV x = true) (fy : flatV y = true) (q : Q (.bl (eqV x y)) H) :
    wpAny (model X.prog X.w) X.A (compareOp .Eq v u) (EP X pins σ Q) X.xe s := by
  rcases flat_scal fx fy with ⟨hs, e⟩ | ⟨b, i, rfl, rfl⟩ | ⟨i, b, rfl, rfl⟩
  · exact op_eq pins s σ H x y v u Q I rx ry ⟨hs, by rw [e]; exact q⟩
  · exact op_eqD hu pins s σ H _ _ v u Q I rx ry ⟨.bool b, .int i, .bl b, .int i, rfl, rfl, by simpa only [PyData.eqv, eqV] using q⟩
  · exact op_eqD hu pins s σ H _ _ v u Q I rx ry ⟨.int i, .bool b, .int i, .bl b, rfl, rfl, by simpa only [PyData.eqv, eqV] using q⟩
theorem op_ne_flat {pins : List (Addr × Obj)} {s : Shared} {σ : L2.St} {H : Hp} {x y : V} {v u : Value} {Q : VK} (hu : X.A.units + 64 < cLine) (I : Inv X pins σ H s) (rx : RelV x v) (ry : RelV y u) (fx : flatV x = true) (fy : flatV y = true) (q : Q (.bl (!eqV x y)) H) :
    wpAny (model X.prog X.w) X.A (compareOp .NotEq v u) (EP X pins σ Q) X.xe s := by
  rcases flat_scal fx fy with ⟨hs, e⟩ | ⟨b, i, rfl, rfl⟩ | ⟨i, b, rfl, rfl⟩
  · exact op_ne pins s σ H x y v u Q I rx ry ⟨hs, by rw [e]; exact q⟩
  · exact op_neD hu pins s σ H _ _ v u Q I rx ry ⟨.bool b, .int i, .bl b, .int i, rfl, rfl, by simpa only [PyData.eqv, eqV] using q⟩
  · exact op_neD hu pins s σ H _ _ v u Q I rx ry ⟨.int i, .bool b, .int i, .bl b, rfl, rfl, by simpa only [PyData.eqv, eqV] using q⟩
def rCmp (Y : Sy) (op : CmpOp) : R2 := fun x y H Q => ∃ r a b h, RelH Y r H h ∧ RD Y r H a x ∧ RD Y r H b y ∧ Pok Y (RD Y) r H (opCmp op a b h) Q
theorem Pok.optB {Y : Sy} {r : Rg} {H : Hp} {h : Hs} {Q : VK} {o : Option Bool} (p : Pok Y (RD Y) r H (optB o h) Q) (R : RelH Y r H h) : ∃ b, o = some b ∧ Q (.bl b) H := by
  cases o with
  | none => exact p.elim
  | some b => exact ⟨b, rfl, Pok.here (show Pok Y (RD Y) r H (.ok (.bl b) h) Q from p) R RD.bl'⟩
theorem noX_optB {o : Option Bool} {h : Hs} : NoX (optB o h) := by
  cases o
  · exact noX_bad
  · exact noX_ok
theorem noX_cmpI {f : Int → Int → Bool} {a b : D} {h : Hs} : NoX (cmpI f a b h) := by
  unfold cmpI
  split
  · exact noX_ok
  · exact noX_bad
theorem noX_cmp {op : CmpOp} {a b : D} {h : Hs} : NoX (opCmp op a b h) := by
  unfold opCmp
  repeat' split
  all_goals first | exact noX_ok | exact noX_bad | exact noX_optB | exact noX_cmpI
theorem isN_V {Y : Sy} {r : Rg} {H : Hp} {d : D} {v : V} (hv : RD Y r H d v) : decide (v = .non) = isNon d := by
  cases d with
  | non => rw [hv.non_inv]; rfl
  | bl b => rw [hv.bl_inv]; rfl
  | int i => rw [hv.int_inv]; rfl
  | str x => rw [hv.str_inv]; rfl
  | ty n => rw [hv.ty_inv]; rfl
  | tup ds => obtain ⟨a, vs, rfl, _⟩ := hv.tup_inv; rfl
  | lst ds => obtain ⟨a, vs, rfl, _⟩ := hv.lst_inv; rfl
  | dic ks ds => obtain ⟨a, vs, rfl, _⟩ := hv.dic_inv; rfl
  | obj c ns ds => obtain ⟨a, C, dx, fs, rfl, _⟩ := hv.obj_inv; rfl
  | loc n => obtain ⟨a, rfl, _⟩ := hv.loc_inv; rfl
  | glo x =>
    simp only [RD] at hv
    obtain ⟨f, rfl, _⟩ := hv
    rfl
/-- == by the evaluator -/
theorem eq_run {pins : List (Addr × Obj)} {s : Shared} {σ : L2.St} {H : Hp} {x y : V} {v u : Value} {Q : VK} {r : Rg} {h : Hs} {a b : D} {k : Bool} (hu : X.A.units + 64 < cLine) (I : Inv X pins σ H s) (rx : RelV x v) (ry : RelV y u) (R : RelH (sy X) r H h)
    (ha : RD (sy X) r H a x) (hb : RD (sy X) r H b y) (e : opEq h a b = some k) (q : Q (.bl k) H) : wpAny (model X.prog X.w) X.A (compareOp .Eq v u) (EP X pins σ Q) X.xe s := by
  unfold opEq at e
  split at e
  · rename_i hf
    rw [Bool.and_eq_true] at hf
    cases e
    exact op_eq_flat hu I rx ry (flat_V ha hf.1) (flat_V hb hf.2) (by rw [feq_V ha hb hf.1 hf.2]; exact q)
  · split at e
    · rename_i p1 p2 q1 q2
      split at e
      · rename_i hs
        rw [Bool.and_eq_true] at hs
        cases e
        exact op_eqD hu pins s σ H _ _ v u Q I rx ry ⟨p1, p2, toP_ok R ha q1, toP_ok R hb q2, hs.1, hs.2, q⟩
      · cases e
    · cases e
theorem ne_run {pins : List (Addr × Obj)} {s : Shared} {σ : L2.St} {H : Hp} {x y : V} {v u : Value} {Q : VK} {r : Rg} {h : Hs} {a b : D} {k : Bool} (hu : X.A.units + 64 < cLine) (I : Inv X pins σ H s) (rx : RelV x v) (ry : RelV y u) (R : RelH (sy X) r H h)
    (ha : RD (sy X) r H a x) (hb : RD (sy X) r H b y) (e : opEq h a b = some k) (q : Q (.bl (!k)) H) : wpAny (model X.prog X.w) X.A (compareOp .NotEq v u) (EP X pins σ Q) X.xe s := by
  unfold opEq at e
  split at e
  · rename_i hf
    rw [Bool.and_eq_true] at hf
    cases e
    exact op_ne_flat hu I rx ry (flat_V ha hf.1) (flat_V hb hf.2) (by rw [feq_V ha hb hf.1 hf.2]; exact q)
  · split at e
    · rename_i p1 p2 q1 q2
      split at e
      · rename_i hs
        rw [Bool.and_eq_true] at hs
        cases e
        exact op_neD hu pins s σ H _ _ v u Q I rx ry ⟨p1, p2, toP_ok R ha q1, toP_ok R hb q2, hs.1, hs.2, q⟩
      · cases e
    · cases e
/-! ### keys carried by value -/
theorem flat_leaf {d : D} (h : flat d = true) : ∃ l, leafOf d = some l := by
  cases d <;> first | exact ⟨_, rfl⟩ | cases h
theorem leaf_flat {d : D} {l : PySem.Leaf} (h : leafOf d = some l) : flat d = true := by
  cases d <;> first | rfl | cases h
theorem leaf_V {Y : Sy} {r : Rg} {H : Hp} {d : D} {v : V} {l : PySem.Leaf} (hv : RD Y r H d v) (h : leafOf d = some l) : leafV v = some l := by
  cases d with
  | non => rw [hv.non_inv]; exact h
  | bl b => rw [hv.bl_inv]; exact h
  | int i => rw [hv.int_inv]; exact h
  | str x => rw [hv.str_inv]; exact h
  | _ => cases h
theorem feq_leaf {a b : D} {la lb : PySem.Leaf} (ha : leafOf a = some la) (hb : leafOf b = some lb) : feq a b = decide (la = lb) := by
  cases a <;> cases b <;> simp only [leafOf, Option.some.injEq, reduceCtorEq] at ha hb <;> subst ha hb <;> simp only [feq, PySem.Leaf.num.injEq, PySem.Leaf.text.injEq, reduceCtorEq, decide_true, decide_false] <;> rw [Bool.eq_iff_iff] <;> simp
  case bl.bl x y => cases x <;> cases y <;> simp
theorem kv_find {Y : Sy} {r : Rg} {H : Hp} {b : D} {k : PySem.Leaf} (hb : leafOf b = some k) : ∀ {kvs : List (D × D)} {lvs : List (PySem.Leaf × V)}, leafK kvs = lvs.map (fun q => some q.1) → RDs Y r H (kvs.map (·.2)) (lvs.map (·.2)) →
    (∀ d, kvFind b kvs = some d → ∃ v, valV lvs k = some v ∧ RD Y r H d v) ∧ (kvFind b kvs = none → valV lvs k = none) ∧ (kvs.any fun q => feq q.1 b) = (valV lvs k).isSome
  | [], [], _, _ => ⟨fun d e => (nomatch e), fun _ => rfl, rfl⟩
  | [], _ :: _, h, _ => by simp [leafK] at h
  | _ :: _, [], h, _ => by simp [leafK] at h
  | (kd, d) :: kvs, (l, v) :: lvs, h, hr => by
    simp only [leafK, List.map_cons, List.cons.injEq] at h
    obtain ⟨v', t, e, h1, h2⟩ := RDs.cons_inv hr
    simp only [List.map_cons, List.cons.injEq] at e
    obtain ⟨rfl, rfl⟩ := e
    obtain ⟨i1, i2, i3⟩ := kv_find hb (kvs := kvs) (lvs := lvs) h.2 h2
    have hf : feq kd b = decide (l = k) := feq_leaf h.1 hb
    simp only [kvFind, List.any_cons, hf]
    by_cases hk : l = k
    · rw [valV_pos (show (l, v).1 = k from hk)]
      rw [decide_eq_true hk]
      exact ⟨fun d' e => by cases e; exact ⟨v, rfl, h1⟩, fun e => (nomatch e), rfl⟩
    · rw [valV_neg (show ¬ (l, v).1 = k from hk)]
      rw [decide_eq_false hk]
      simp only [Bool.false_eq_true, if_false, Bool.false_or]
      exact ⟨i1, i2, i3⟩
theorem kv_put {Y : Sy} {r : Rg} {H : Hp} {b d : D} {v : V} {k : PySem.Leaf} (hb : leafOf b = some k) (hd : RD Y r H d v) {kvs : List (D × D)} {lvs : List (PySem.Leaf × V)} (h : leafK kvs = lvs.map (fun q => some q.1)) (hr : RDs Y r H (kvs.map (·.2)) (lvs.map (·.2))) :
    leafK (kvPut b d kvs) = (putK lvs k v).map (fun q => some q.1) ∧ RDs Y r H ((kvPut b d kvs).map (·.2)) ((putK lvs k v).map (·.2)) := by
  have ha : (kvs.any fun q => feq q.1 b) = lvs.any fun q => decide (q.1 = k) := by
    rw [(kv_find hb h hr).2.2, valV_any]
  unfold kvPut putK
  rw [ha]
  split
  · clear ha
    induction kvs generalizing lvs with
    | nil =>
      cases lvs with
      | nil => exact ⟨rfl, RDs.nil⟩
      | cons l ls => simp [leafK] at h
    | cons q kvs ih =>
      cases lvs with
      | nil => simp [leafK] at h
      | cons l ls =>
        obtain ⟨kd, dd⟩ := q
        obtain ⟨l, lv⟩ := l
        simp only [leafK, List.map_cons, List.cons.injEq] at h
        obtain ⟨v', t, e, h1, h2⟩ := RDs.cons_inv hr
        simp only [List.map_cons, List.cons.injEq] at e
        obtain ⟨rfl, rfl⟩ := e
        have hf : feq kd b = decide (l = k) := feq_leaf h.1 hb
        by_cases any : (ls.any fun q => decide (q.1 = k)) = true
        all_goals skip
        · obtain ⟨i1, i2⟩ := ih (lvs := ls) h.2 h2 any
          by_cases hk : l = k
          · simp only [leafK, List.map_cons, hf, hk, decide_true, if_true, List.map_map] at i1 i2 ⊢
            rw [hk] at h
            exact ⟨by rw [← i1, h.1], RDs.cons hd i2⟩
          · simp only [leafK, List.map_cons, hf, hk, decide_false, Bool.false_eq_true, if_false, List.map_map] at i1 i2 ⊢
            exact ⟨by rw [← i1, h.1], RDs.cons h1 i2⟩
        · have same : ∀ {kvs : List (D × D)} {ls : List (PySem.Leaf × V)}, leafK kvs = ls.map (fun q => some q.1) → RDs Y r H (kvs.map (·.2)) (ls.map (·.2)) → ¬ (ls.any fun q => decide (q.1 = k)) = true →
              kvs.map (fun q => if feq q.1 b = true then (q.1, d) else q) = kvs ∧ ls.map (fun kv => if kv.1 = k then (kv.1, v) else kv) = ls := fun {kvs ls} h hr n => by
            refine ⟨?_, ?_⟩
            · refine (List.map_congr_left fun q hq => ?_).trans (List.map_id _)
              have z : (kvs.any fun q => feq q.1 b) = false := by
                rw [(kv_find hb h hr).2.2, ← valV_any]
                exact Bool.eq_false_iff.mpr n
              have := List.any_eq_false.mp z q hq
              simp only [this, if_false, Bool.false_eq_true]
              rfl
            · refine (List.map_congr_left fun q hq => ?_).trans (List.map_id _)
              have := List.any_eq_false.mp (Bool.eq_false_iff.mpr n) q hq
              rw [decide_eq_true_eq] at this
              rw [if_neg this]
              rfl
          obtain ⟨s1, s2⟩ := same h.2 h2 any
          rw [List.map_cons, List.map_cons, s1, s2]
          by_cases hk : l = k
          · simp only [leafK, List.map_cons, hf, hk, decide_true, if_true]
            rw [hk] at h
            exact ⟨by rw [h.1]; congr 1; exact h.2, RDs.cons hd h2⟩
          · simp only [leafK, List.map_cons, hf, hk, decide_false, Bool.false_eq_true, if_false]
            exact ⟨by rw [h.1]; congr 1; exact h.2, RDs.cons h1 h2⟩
  · refine ⟨?_, ?_⟩
    · simp only [leafK, List.map_append, List.map_cons, List.map_nil, hb] at h ⊢
      rw [h]
    · rw [List.map_append, List.map_append]
      exact hr.append (RDs.cons hd RDs.nil)
theorem RelH.dic {Y : Sy} {r : Rg} {H : Hp} {h : Hs} (R : RelH Y r H h) {n : Nat} {kvs : List (D × D)} {a : Addr} (e : h[n]? = some (.dic kvs)) (ha : r.o[n]? = some a) : ∃ lvs : List (PySem.Leaf × V), H a = some (DicL Y.P Y.w a lvs) ∧ leafK kvs = lvs.map (fun q => some q.1) ∧ RDs Y r H (kvs.map (·.2)) (lvs.map (·.2)) := R.obj n _ a e ha
theorem zip_fst {ks vs : List D} (h : vs.length = ks.length) : (ks.zip vs).map (·.1) = ks ∧ (ks.zip vs).map (·.2) = vs := by
  refine ⟨?_, ?_⟩
  · rw [List.map_fst_zip]; omega
  · rw [List.map_snd_zip]; omega
/-- a dict's pairs -/
theorem RelH.dicI {Y : Sy} {r : Rg} {H : Hp} {h : Hs} (R : RelH Y r H h) {d : D} {v : V} {kvs : List (D × D)} (hv : RD Y r H d v) (e : dicI h d = some kvs) : ∃ (a : Addr) (lvs : List (PySem.Leaf × V)), v = .ref a ∧ H a = some (DicL Y.P Y.w a lvs) ∧ leafK kvs = lvs.map (fun q => some q.1) ∧ RDs Y r H (kvs.map (·.2)) (lvs.map (·.2)) := by
  cases d with
  | dic ks ds =>
    simp only [EV.dicI, Option.some.injEq] at e
    subst e
    obtain ⟨a, lvs, rfl, h1, h2, h3⟩ := hv.dic_inv
    have hl : ds.length = ks.length := by
      have e1 := h3.length
      have e2 := congrArg List.length h2
      simp only [List.length_map] at e1 e2
      omega
    obtain ⟨z1, z2⟩ := zip_fst hl
    refine ⟨a, lvs, rfl, h1.1, ?_, by rw [z2]; exact h3⟩
    unfold leafK
    have : (ks.zip ds).map (fun q => leafOf q.1) = ((ks.zip ds).map (·.1)).map leafOf := by rw [List.map_map]; rfl
    rw [this, z1]
    exact h2
  | loc n =>
    obtain ⟨a, rfl, ha⟩ := hv.loc_inv
    simp only [EV.dicI] at e
    split at e
    · rename_i ys q
      cases e
      obtain ⟨vs, h1, h2⟩ := R.dic q ha
      exact ⟨a, vs, rfl, h1, h2⟩
    · cases e
  | _ => simp only [EV.dicI] at e; cases e
theorem in_run {pins : List (Addr × Obj)} {s : Shared} {σ : L2.St} {H : Hp} {x y : V} {v u : Value} {r : Rg} {h : Hs} {a b : D} {k : Bool} (hu : X.A.units + 65 < cLine) (I : Inv X pins σ H s) (rx : RelV x v) (ry : RelV y u) (R : RelH (sy X) r H h)
    (ha : RD (sy X) r H a x) (hb : RD (sy X) r H b y) (e : opIn h a b = some k) : (∀ Q : VK, Q (.bl k) H → wpAny (model X.prog X.w) X.A (compareOp .In v u) (EP X pins σ Q) X.xe s) ∧ ∀ Q : VK, Q (.bl (!k)) H → wpAny (model X.prog X.w) X.A (compareOp .NotIn v u) (EP X pins σ Q) X.xe s := by
  unfold opIn at e
  split at e
  · rename_i xs hi
    obtain ⟨p, vs, rfl, hq, hr⟩ := R.items hb hi
    split at e
    · rename_i hf
      rw [Bool.and_eq_true] at hf
      cases e
      have e1 : inV x vs = xs.any fun y => feq y a := any_V ha hf.1 hr hf.2
      refine ⟨fun Q q => op_in_seq pins s σ H x _ v u Q I rx ry ⟨p, vs, rfl, hq, flat_V ha hf.1, flats_V hr hf.2, ?_⟩, fun Q q => op_notIn_seq pins s σ H x _ v u Q I rx ry ⟨p, vs, rfl, hq, flat_V ha hf.1, flats_V hr hf.2, ?_⟩⟩
      · rw [if_neg (by decide), e1]; exact q
      · rw [if_pos rfl, e1]; exact q
    · split at e
      · rename_i p1 qs q1 q2
        split at e
        · rename_i hs
          rw [Bool.and_eq_true] at hs
          cases e
          exact ⟨fun Q q => op_inD hu pins s σ H x _ v u Q I rx ry ⟨p1, qs, toP_ok R ha q1, toP_ok R hb q2, hs.1, hs.2, q⟩, fun Q q => op_notInD hu pins s σ H x _ v u Q I rx ry ⟨p1, qs, toP_ok R ha q1, toP_ok R hb q2, hs.1, hs.2, q⟩⟩
        · cases e
      · cases e
  · split at e
    · rename_i kvs q
      obtain ⟨a', lvs, rfl, h1, h2, h3⟩ := R.dicI hb q
      split at e
      · rename_i hf
        rw [Bool.and_eq_true] at hf
        obtain ⟨l, hl⟩ := flat_leaf hf.1
        cases e
        have z := (kv_find hl h2 h3).2.2
        cases (show u = Value.ref a' from ry)
        refine ⟨fun Q q => dl_in I h1 rx (leaf_V ha hl) fun s' I' => ⟨.bl _, H, I', rfl, by rw [z] at q; exact q⟩, fun Q q => dl_notIn I h1 rx (leaf_V ha hl) fun s' I' => ⟨.bl _, H, I', rfl, by rw [z] at q; exact q⟩⟩
      · cases e
    · cases e
theorem op_cmp (op : CmpOp) (hu : X.A.units + 65 < cLine) : OpR X (compareOp op) (rCmp (sy X) op) := by
  intro pins s σ H x y v u Q I rx ry q
  obtain ⟨r, a, b, h, R, ha, hb, p⟩ := q
  have hu' : X.A.units + 64 < cLine := by omega
  have intz : ∀ {f : Int → Int → Bool}, Pok (sy X) (RD (sy X)) r H (cmpI f a b h) Q → ∃ i j, x = .int i ∧ y = .int j ∧ Q (.bl (f i j)) H := fun {f} p => by
    cases a with
    | int i => cases b with
      | int j => exact ⟨i, j, ha.int_inv, hb.int_inv, Pok.here (show Pok (sy X) (RD (sy X)) r H (.ok (.bl (f i j)) h) Q from p) R RD.bl'⟩
      | _ => exact p.elim
    | _ => exact p.elim
  cases op
  case Eq =>
    obtain ⟨k, e, q⟩ := Pok.optB (show Pok (sy X) (RD (sy X)) r H (optB (opEq h a b) h) Q from p) R
    exact eq_run hu' I rx ry R ha hb e q
  case NotEq =>
    obtain ⟨k, e, q⟩ := Pok.optB (show Pok (sy X) (RD (sy X)) r H (optB ((opEq h a b).map not) h) Q from p) R
    obtain ⟨k', e', rfl⟩ := Option.map_eq_some_iff.mp e
    exact ne_run hu' I rx ry R ha hb e' q
  case Lt => exact op_lt pins s σ H x y v u Q I rx ry (intz (f := fun i j => decide (i < j)) p)
  case LtE => exact op_le pins s σ H x y v u Q I rx ry (intz (f := fun i j => decide (i ≤ j)) p)
  case Gt => exact op_gt pins s σ H x y v u Q I rx ry (intz (f := fun i j => decide (j < i)) p)
  case GtE => exact op_ge pins s σ H x y v u Q I rx ry (intz (f := fun i j => decide (j ≤ i)) p)
  case Is =>
    cases b with
    | non =>
      refine op_isN pins s σ H x y v u Q I rx ry ⟨hb.non_inv, ?_⟩
      rw [isN_V ha]
      exact Pok.here (show Pok (sy X) (RD (sy X)) r H (.ok (.bl (isNon a)) h) Q from p) R RD.bl'
    | _ => exact p.elim
  case IsNot =>
    cases b with
    | non =>
      refine op_notN pins s σ H x y v u Q I rx ry ⟨hb.non_inv, ?_⟩
      rw [isN_V ha]
      exact Pok.here (show Pok (sy X) (RD (sy X)) r H (.ok (.bl (!isNon a)) h) Q from p) R RD.bl'
    | _ => exact p.elim
  case In =>
    obtain ⟨k, e, q⟩ := Pok.optB (show Pok (sy X) (RD (sy X)) r H (optB (opIn h a b) h) Q from p) R
    exact (in_run hu I rx ry R ha hb e).1 Q q
  case NotIn =>
    obtain ⟨k, e, q⟩ := Pok.optB (show Pok (sy X) (RD (sy X)) r H (optB ((opIn h a b).map not) h) Q from p) R
    obtain ⟨k', e', rfl⟩ := Option.map_eq_some_iff.mp e
    exact (in_run hu I rx ry R ha hb e').2 Q q
/-- truth -/
theorem tru_V {Y : Sy} {r : Rg} {H : Hp} {h : Hs} {d : D} {v : V} {b : Bool} (R : RelH Y r H h) (hv : RD Y r H d v) (e : truthy h d = some b) : TruV Y.K v H b := by
  have key : (match items h d with
      | some xs => some (!xs.isEmpty)
      | none => none) = some b → TruV Y.K v H b := fun e => by
    split at e
    · rename_i xs q
      cases e
      obtain ⟨a, vs, rfl, hq, hr⟩ := R.items hv q
      have hl := hr.length
      rcases hq with hq | hq
      · refine .inl ⟨vs, hq, ?_⟩
        cases xs <;> cases vs <;> simp_all
      · refine .inr (.inl ⟨vs, hq, ?_⟩)
        cases xs <;> cases vs <;> simp_all
    · cases e
  cases d with
  | non => rw [hv.non_inv]; cases e; rfl
  | bl b => rw [hv.bl_inv]; cases e; rfl
  | int i => rw [hv.int_inv]; cases e; rfl
  | str x =>
    rw [hv.str_inv]
    simp only [truthy] at e
    split at e
    · rename_i hl
      cases e
      refine ⟨ble_lim hl, ?_⟩
      rw [Bool.eq_iff_iff]
      simp
    · cases e
  | _ => exact key e
end
end EV

set_option Elab.async false
set_option linter.all false
set_option maxRecDepth 100000
set_option maxHeartbeats 1000000
/-! EV 3: subscripts, slices, built-ins, methods. -/
namespace EV
open PySem PySem.Spec PyProof.Rows L2

section
variable {X : Cx}
def rSub (Y : Sy) : R2 := fun x y H Q => ∃ r a b h, RelH Y r H h ∧ RD Y r H a x ∧ RD Y r H b y ∧ Pok Y (RD Y) r H (opSub a b h) Q
theorem noX_optD {o : Option D} {h : Hs} : NoX (optD o h) := by
  cases o
  · exact noX_bad
  · exact noX_ok
theorem noX_sub {a b : D} {h : Hs} : NoX (opSub a b h) := by
  unfold opSub
  repeat' split
  all_goals first | exact noX_ok | exact noX_bad | exact noX_optD
theorem at_V {Y : Sy} {r : Rg} {H : Hp} {xs : List D} {vs : List V} {i : Int} {d : D} (hr : RDs Y r H xs vs) (e : atI xs i = some d) : ∃ v, L2.atI vs i = some v ∧ RD Y r H d v := by
  unfold atI at e
  split at e
  · rename_i j q
    obtain ⟨v, h1, h2⟩ := hr.get e
    refine ⟨v, ?_, h2⟩
    unfold L2.atI
    have e2 : L2.ixN vs.length i = some j := by
      rw [hr.length]
      exact q
    rw [e2]
    exact h1
  · cases e
theorem dl_sub {pins : List (Addr × Obj)} {s : Shared} {σ : L2.St} {H : Hp} {a : Addr} {lvs : List (PySem.Leaf × V)} {k : PySem.Leaf} {y v : V} {u : Value} {value slice : Expr} {Q : Value → Shared → Prop} (I : Inv X pins σ H s) (e : H a = some (DicL X.prog X.w a lvs)) (ry : RelV y u) (hk : leafV y = some k) (hv : valV lvs k = some v)
    (hs : subscripted slice false (.ref a) u = operate [.ref a, u] (getItem (.ref a) u)) (h : ∀ w' s', Inv X pins σ H s' → RelV v w' → Q w' s') : wpAny (model X.prog X.w) X.A (subscriptTail value slice (.ref a) u) Q X.xe s := by
  have hT := (dl_at I e).1
  unfold subscriptTail
  refine wpAny_bind ?_
  rw [getitemInPython_of_ne hT.not_modules]
  refine wpAny_bind (wpAny_specialOf hT PySem.F.slot_dict_getitem.lookup ?_)
  have fin : wpAny (model X.prog X.w) X.A (subscripted slice false (.ref a) u) (fun r s₃ => wpAny (model X.prog X.w) X.A (letTemporaryGo value (.ref a) r >>= fun _ => pure r) Q X.xe s₃) X.xe s := by
    rw [hs]
    exact wpAny_operating (dl_getItem I e ry hk hv fun w' s' I' rw' => wpAny_bind (wpAny_letTemporaryGo (wpAny_pure (h w' s' I' rw'))))
  first
    | exact wpAny_pure (wpAny_bind fin)
    | exact wpAny_bind (wpAny_pure (wpAny_bind fin))
    | exact wpAny_bind fin
theorem ix_sub : IxR X (rSub (sy X)) := by
  intro value slice pins s σ H x y v u Q I rx ry q hs
  obtain ⟨r, a, b, h, R, ha, hb, p⟩ := q
  unfold opSub at p
  split at p
  · rename_i xs hi
    obtain ⟨q, vs, rfl, hq, hr⟩ := R.items ha hi
    split at p
    · rename_i i
      cases e : atI xs i with
      | none => rw [e] at p; exact p.elim
      | some d =>
        rw [e] at p
        obtain ⟨z, h1, h2⟩ := at_V hr e
        have p : Pok (sy X) (RD (sy X)) r H (.ok d h) Q := p
        rcases hq with hq | hq
        · exact ix_list value slice pins s σ H _ y v u Q I rx ry ⟨q, vs, i, z, rfl, hb.int_inv, hq, h1, p.here R h2⟩ hs
        · exact ix_tup value slice pins s σ H _ y v u Q I rx ry ⟨q, vs, i, z, rfl, hb.int_inv, hq, h1, p.here R h2⟩ hs
    · exact p.elim
  · split at p
    · rename_i kvs q
      obtain ⟨a', lvs, rfl, h1, h2, h3⟩ := R.dicI ha q
      split at p
      · rename_i hf
        rw [Bool.and_eq_true] at hf
        obtain ⟨l, hl⟩ := flat_leaf hf.1
        cases e : kvFind b kvs with
        | none => rw [e] at p; exact p.elim
        | some d =>
          rw [e] at p
          have p : Pok (sy X) (RD (sy X)) r H (.ok d h) Q := p
          obtain ⟨z, g1, g2⟩ := (kv_find hl h2 h3).1 d e
          cases (show v = Value.ref a' from rx)
          exact dl_sub I h1 ry (leaf_V hb hl) g1 hs fun w' s' I' rw' => ⟨z, H, I', rw', p.here R g2⟩
      · exact p.elim
    · exact p.elim

/-! ### slices -/
def rSlc (Y : Sy) : V → Option Int → Option Int → Hp → VK → Prop := fun x lo hi H Q => ∃ r a l u h, RelH Y r H h ∧ RD Y r H a x ∧ ixOf l = some lo ∧ ixOf u = some hi ∧ Pok Y (RD Y) r H (opSlc a l u h) Q
theorem noX_slc {a b c : D} {h : Hs} : NoX (opSlc a b c h) := by
  unfold opSlc
  repeat' split
  all_goals first | exact noX_ok | exact noX_bad
theorem cut_V {Y : Sy} {r : Rg} {H : Hp} {xs : List D} {vs : List V} (lo hi : Option Int) (hr : RDs Y r H xs vs) : RDs Y r H (cutD xs lo hi) (cutV vs lo hi) := by
  unfold cutD cutV
  have := (hr.drop (sIx xs.length 0 lo)).take (sIx xs.length xs.length hi - sIx xs.length 0 lo)
  rw [hr.length]
  exact this
theorem cut_whole {xs : List D} {lo hi : Option Int} (h1 : sIx xs.length 0 lo = 0) (h2 : sIx xs.length xs.length hi = xs.length) : cutD xs lo hi = xs := by
  unfold cutD
  rw [h1, h2]
  simp
theorem sl_slc : SlR X (rSlc (sy X)) := by
  intro pins s σ H x v vl vu lo hi sl Q I rx hs pl pu q
  obtain ⟨r, a, l, u, h, R, ha, e1, e2, p⟩ := q
  unfold opSlc at p
  rw [e1, e2] at p
  simp only at p
  have lst : Pok (sy X) (RD (sy X)) r H (match lstI h a with
      | some xs => .ok (.lst (cutD xs lo hi)) h
      | none => .bad) Q → ∃ T id, typeLookup (.type T) "__getitem__" = pure (some (.builtin id)) ∧ s.TypeIs v T ∧ wpAny (model X.prog X.w) X.A (getItem v (.ref sl)) (EP X pins σ Q) X.xe s := fun p => by
    split at p
    · rename_i xs e
      obtain ⟨q, vs, rfl, h1, h2⟩ := R.lstI ha e
      exact sl_list pins s σ H _ v vl vu lo hi sl Q I rx hs pl pu ⟨q, vs, rfl, h1.sq, p.lstF R (cut_V lo hi h2)⟩
    · exact p.elim
  cases a with
  | tup xs =>
    obtain ⟨q, vs, rfl, ht, hr⟩ := ha.tup_inv
    have p : Pok (sy X) (RD (sy X)) r H (.ok (.tup (cutD xs lo hi)) h) Q := p
    refine sl_tupA pins s σ H _ v vl vu lo hi sl Q I rx hs pl pu ⟨q, vs, rfl, ht.sq, fun hw => ?_, fun _ => p.tup R (cut_V lo hi hr)⟩
    rw [hr.length] at hw
    rw [cut_whole hw.1 hw.2] at p
    exact p.here R ha
  | _ => exact lst p

/-! ### built-ins -/
def rB (Y : Sy) (f : B) : List V → Hp → VK → Prop := fun xs H Q => ∃ r ds h, RelH Y r H h ∧ RDs Y r H ds xs ∧ Pok Y (RD Y) r H (callB f ds h) Q
theorem ints_V {Y : Sy} {r : Rg} {H : Hp} : ∀ {xs : List D} {vs : List V} {is : List Int}, RDs Y r H xs vs → intsOf xs = some is → vs = is.map V.int
  | [], vs, is, h, e => by simp only [intsOf, Option.some.injEq] at e; subst e; exact h.nil_inv
  | d :: xs, vs, is, h, e => by
    obtain ⟨v, t, rfl, h1, h2⟩ := h.cons_inv
    simp only [intsOf] at e
    split at e
    · split at e
      · rename_i js q
        cases e
        rw [h1.int_inv, ints_V h2 q]
        rfl
      · cases e
    · cases e
theorem bls_V {Y : Sy} {r : Rg} {H : Hp} : ∀ {xs : List D} {vs : List V} {is : List Bool}, RDs Y r H xs vs → blsOf xs = some is → vs = is.map V.bl
  | [], vs, is, h, e => by simp only [blsOf, Option.some.injEq] at e; subst e; exact h.nil_inv
  | d :: xs, vs, is, h, e => by
    obtain ⟨v, t, rfl, h1, h2⟩ := h.cons_inv
    simp only [blsOf] at e
    split at e
    · split at e
      · rename_i js q
        cases e
        rw [h1.bl_inv, bls_V h2 q]
        rfl
      · cases e
    · cases e
theorem rds_ints {Y : Sy} {r : Rg} {H : Hp} : ∀ is : List Int, RDs Y r H (is.map .int) (is.map V.int)
  | [] => RDs.nil
  | i :: is => RDs.cons RD.int' (rds_ints is)
theorem insI_perm (i : Int) : ∀ js : List Int, (insI i js).Perm (i :: js)
  | [] => .refl _
  | j :: js => by
    unfold insI
    split
    · exact .refl _
    · exact ((insI_perm i js).cons j).trans (.swap i j js)
theorem sortI_perm : ∀ is : List Int, (sortI is).Perm is
  | [] => .refl _
  | i :: is => (insI_perm i (sortI is)).trans ((sortI_perm is).cons i)
theorem insI_sorted (i : Int) : ∀ {js : List Int}, js.Pairwise (· ≤ ·) → (insI i js).Pairwise (· ≤ ·)
  | [], _ => by unfold insI; exact List.pairwise_singleton _ _
  | j :: js, h => by
    unfold insI
    split
    · rename_i hij
      refine List.pairwise_cons.mpr ⟨fun k hk => ?_, h⟩
      rcases List.mem_cons.mp hk with rfl | hk
      · exact hij
      · exact Int.le_trans hij ((List.pairwise_cons.mp h).1 k hk)
    · rename_i hij
      refine List.pairwise_cons.mpr ⟨fun k hk => ?_, insI_sorted i (List.pairwise_cons.mp h).2⟩
      rcases List.mem_cons.mp ((insI_perm i js).mem_iff.mp hk) with rfl | hk
      · omega
      · exact (List.pairwise_cons.mp h).1 k hk
theorem sortI_sorted : ∀ is : List Int, (sortI is).Pairwise (· ≤ ·)
  | [] => .nil
  | i :: is => insI_sorted i (sortI_sorted is)
theorem sorted_one {a b : List Int} (p : a.Perm b) (ha : a.Pairwise (· ≤ ·)) (hb : b.Pairwise (· ≤ ·)) : a = b := by
  refine List.Perm.eq_of_pairwise (fun x y _ _ h1 h2 => Int.le_antisymm h1 h2) ha hb p
theorem ty_V {Y : Sy} {r : Rg} {H : Hp} {h : Hs} {d : D} {v : V} {t : String} {b : Bool} (R : RelH Y r H h) (hv : RD Y r H d v) (ho : tyOk t = true) (e : tyB h d t = some b) : ∃ T, TyX Y.K H v (.type T) ∧ PySem.W.kitOne Y.K (.type T) (.type t) = some b := by
  have key : ∀ T : String, T = "NoneType" ∨ T = "bool" ∨ T = "int" ∨ T = "str" ∨ T = "tuple" ∨ T = "list" ∨ T = "dict" → ∀ t, tyOk t = true → kitB T t = some (t == T || (T == "bool" && t == "int")) := by
    intro T hT t ht
    simp only [tyOk, Bool.or_eq_true, beq_iff_eq] at ht
    rcases hT with rfl | rfl | rfl | rfl | rfl | rfl | rfl <;> (rcases ht with ((((rfl | rfl) | rfl) | rfl) | rfl) | rfl) <;> decide +kernel
  have lst : (match lstI h d with
      | some _ => some (t == "list")
      | none => none) = some b → ∃ T, TyX Y.K H v (.type T) ∧ PySem.W.kitOne Y.K (.type T) (.type t) = some b := fun e => by
    split at e
    · rename_i xs q
      obtain ⟨a, vs, rfl, h1, _⟩ := R.lstI hv q
      cases e
      refine ⟨"list", ?_, kit_ty ?_⟩
      · rcases h1 with h1 | ⟨ob, h1⟩
        · exact .base (.lst h1)
        · exact .base (.frz h1)
      · rw [key _ (.inr (.inr (.inr (.inr (.inr (.inl rfl)))))) t ho]
        simp
    · cases e
  cases d with
  | non =>
    simp only [tyB, Option.some.injEq] at e
    refine ⟨_, .base (by rw [hv.non_inv]; exact .non), kit_ty ?_⟩
    rw [key _ (.inl rfl) t ho, ← e]
    simp
  | bl x =>
    simp only [tyB, Option.some.injEq] at e
    refine ⟨_, .base (by rw [hv.bl_inv]; exact .bl x), kit_ty ?_⟩
    rw [key _ (.inr (.inl rfl)) t ho, ← e]
    simp
  | int i =>
    simp only [tyB, Option.some.injEq] at e
    refine ⟨_, .base (by rw [hv.int_inv]; exact .int i), kit_ty ?_⟩
    rw [key _ (.inr (.inr (.inl rfl))) t ho, ← e]
    simp
  | str x =>
    simp only [tyB, Option.some.injEq] at e
    refine ⟨_, .base (by rw [hv.str_inv]; exact .str x), kit_ty ?_⟩
    rw [key _ (.inr (.inr (.inr (.inl rfl)))) t ho, ← e]
    simp
  | tup ds =>
    simp only [tyB, Option.some.injEq] at e
    obtain ⟨a, vs, rfl, ht, hr⟩ := hv.tup_inv
    refine ⟨"tuple", ?_, kit_ty ?_⟩
    · rcases ht with ⟨ht, _⟩ | ⟨o, its, n, h1, h2, _⟩
      · exact .base (.tup ht)
      · exact .kTuple h1 h2
    · rw [key _ (.inr (.inr (.inr (.inr (.inl rfl))))) t ho, ← e]
      simp
  | loc n => exact lst e
  | lst ds => exact lst e
  | ty n => exact lst e
  | glo x => exact lst e
  | dic ks ds => exact lst e
  | obj c ns ds => exact lst e
theorem noX_B {f : B} {ds : List D} {h : Hs} : NoX (callB f ds h) := by
  unfold callB
  repeat' split
  all_goals first | exact noX_ok | exact noX_bad | exact noX_optB | exact noX_ite noX_optB noX_bad
def bltV : B → Value
  | .len => .builtin "len"
  | .int => .type "int"
  | .isi => .builtin "isinstance"
  | .all => .builtin "all"
  | .any => .builtin "any"
  | .tuple => .type "tuple"
  | .list => .type "list"
  | .listM => .type "list"
  | .sorted => .builtin "sorted"
  | .sum => .builtin "sum"
  | .max => .builtin "max"
  | .min => .builtin "min"
theorem foldmax (is : List Int) : ∀ i : Int, (is.foldl (fun a b => if b > a then b else a) i ∈ i :: is) ∧ ∀ y ∈ i :: is, y ≤ is.foldl (fun a b => if b > a then b else a) i := by
  induction is with
  | nil => intro i; simp
  | cons j js ih =>
    intro i
    obtain ⟨h1, h2⟩ := ih (if j > i then j else i)
    rw [List.foldl_cons]
    refine ⟨?_, fun y hy => ?_⟩
    · rcases List.mem_cons.mp h1 with e | e
      · rw [e]
        split
        · exact List.mem_cons_of_mem _ (List.mem_cons_self ..)
        · exact List.mem_cons_self ..
      · exact List.mem_cons_of_mem _ (List.mem_cons_of_mem _ e)
    · have a1 := h2 (if j > i then j else i) (List.mem_cons_self ..)
      have a2 : i ≤ (if j > i then j else i) ∧ j ≤ (if j > i then j else i) := by
        split <;> omega
      rcases List.mem_cons.mp hy with rfl | hy
      · exact Int.le_trans a2.1 a1
      · rcases List.mem_cons.mp hy with rfl | hy
        · exact Int.le_trans a2.2 a1
        · exact h2 y (List.mem_cons_of_mem _ hy)
theorem one_V {Y : Sy} {r : Rg} {H : Hp} {d : D} {xs : List V} (h : RDs Y r H [d] xs) : ∃ v, xs = [v] ∧ RD Y r H d v := by
  obtain ⟨v, t, rfl, h1, h2⟩ := h.cons_inv
  rw [h2.nil_inv]
  exact ⟨v, rfl, h1⟩
theorem two_V {Y : Sy} {r : Rg} {H : Hp} {d e : D} {xs : List V} (h : RDs Y r H [d, e] xs) : ∃ v u, xs = [v, u] ∧ RD Y r H d v ∧ RD Y r H e u := by
  obtain ⟨v, t, rfl, h1, h2⟩ := h.cons_inv
  obtain ⟨u, rfl, h3⟩ := one_V h2
  exact ⟨v, u, rfl, h1, h3⟩
theorem call_B (hc : X.calm = true) (f : B) : CallR X (bltV f) (rB (sy X) f) := by
  intro pins s σ H xs us Q I rs q
  obtain ⟨r, ds, h, R, hd, p⟩ := q
  cases f
  case len =>
    simp only [callB] at p
    split at p
    · rename_i d
      obtain ⟨v, rfl, hv⟩ := one_V hd
      split at p
      · rename_i ys hi
        obtain ⟨a, vs, rfl, hq, hr⟩ := R.items hv hi
        exact call_len_seq pins s σ H _ us Q I rs ⟨a, vs, rfl, hq, by rw [hr.length]; exact p.here R RD.int'⟩
      · split at p
        · rename_i kvs q
          obtain ⟨a', lvs, rfl, h1, h2, h3⟩ := R.dicI hv q
          obtain ⟨u, rfl, hu⟩ := rs.one
          cases (show u = Value.ref a' from hu)
          refine dl_len I h1 fun t s' I' => ⟨.int lvs.length, H, I', ⟨t, rfl⟩, ?_⟩
          have e : lvs.length = kvs.length := by
            have := congrArg List.length h2
            simpa [leafK] using this.symm
          rw [e]
          exact p.here R RD.int'
        · exact p.elim
    · exact p.elim
  case int =>
    simp only [callB] at p
    split at p
    · obtain ⟨v, rfl, hv⟩ := one_V hd
      exact call_int1 pins s σ H _ us Q I rs (.inl ⟨_, by rw [hv.int_inv], p.here R RD.int'⟩)
    · obtain ⟨v, rfl, hv⟩ := one_V hd
      exact call_int1 pins s σ H _ us Q I rs (.inr ⟨_, by rw [hv.bl_inv], p.here R RD.int'⟩)
    · exact p.elim
  case isi =>
    simp only [callB] at p
    split at p
    · rename_i d t
      obtain ⟨v, u, rfl, hv, hu⟩ := two_V hd
      split at p
      · rename_i ho
        obtain ⟨b, e, q⟩ := Pok.optB p R
        obtain ⟨T, h1, h2⟩ := ty_V R hv ho e
        rw [hu.ty_inv] at rs
        exact call_isi pins s σ H _ us Q I rs ⟨v, .ty t, .type T, .type t, b, rfl, .ty t, h1, h2, q⟩
      · exact p.elim
    · exact p.elim
  case all =>
    simp only [callB] at p
    split at p
    · obtain ⟨v, rfl, hv⟩ := one_V hd
      split at p
      · rename_i xs q
        obtain ⟨a, vs, rfl, h1, h2⟩ := R.lstI hv q
        split at p
        · rename_i bs e
          rw [bls_V h2 e] at h1
          exact cr_all hc pins s σ H _ us Q I rs ⟨a, bs, rfl, h1.sq, p.here R RD.bl'⟩
        · exact p.elim
      · exact p.elim
    · exact p.elim
  case any =>
    simp only [callB] at p
    split at p
    · obtain ⟨v, rfl, hv⟩ := one_V hd
      split at p
      · rename_i xs q
        obtain ⟨a, vs, rfl, h1, h2⟩ := R.lstI hv q
        split at p
        · rename_i bs e
          rw [bls_V h2 e] at h1
          exact cr_any hc pins s σ H _ us Q I rs ⟨a, bs, rfl, h1.sq, p.here R RD.bl'⟩
        · exact p.elim
      · exact p.elim
    · exact p.elim
  case tuple =>
    simp only [callB] at p
    split at p
    · rename_i d
      obtain ⟨v, rfl, hv⟩ := one_V hd
      have lst : Pok (sy X) (RD (sy X)) r H (match lstI h d with
          | some xs => .ok (.tup xs) h
          | none => .bad) Q → wpAny (model X.prog X.w) X.A (call (bltV .tuple) us) (EP X pins σ Q) X.xe s := fun p => by
        split at p
        · rename_i zs e
          obtain ⟨a, vs, rfl, h1, h2⟩ := R.lstI hv e
          exact call_tuple_of pins s σ H _ us Q I rs ⟨a, vs, rfl, .inl ⟨h1.sq, p.tup R h2⟩⟩
        · exact p.elim
      cases d with
      | tup zs =>
        obtain ⟨a, vs, rfl, ht, hr⟩ := hv.tup_inv
        exact call_tuple_of pins s σ H _ us Q I rs ⟨a, vs, rfl, .inr ⟨ht.sq, p.here R hv⟩⟩
      | _ => exact lst p
    · exact p.elim
  case list =>
    simp only [callB] at p
    split at p
    · rename_i d
      obtain ⟨v, rfl, hv⟩ := one_V hd
      split at p
      · rename_i ys hi
        obtain ⟨a, vs, rfl, hq, hr⟩ := R.items hv hi
        exact call_list_of pins s σ H _ us Q I rs ⟨a, vs, rfl, hq, p.lstF R hr⟩
      · exact p.elim
    · exact p.elim
  case listM =>
    simp only [callB] at p
    split at p
    · rename_i d
      obtain ⟨v, rfl, hv⟩ := one_V hd
      split at p
      · rename_i ys hi
        obtain ⟨a, vs, rfl, hq, hr⟩ := R.items hv hi
        exact call_list_of pins s σ H _ us Q I rs ⟨a, vs, rfl, hq, p.lstT R hr⟩
      · exact p.elim
    · exact p.elim
  case sorted =>
    simp only [callB] at p
    split at p
    · obtain ⟨v, rfl, hv⟩ := one_V hd
      split at p
      · rename_i xs q
        obtain ⟨a, vs, rfl, h1, h2⟩ := R.lstI hv q
        split at p
        · rename_i is e
          rw [ints_V h2 e] at h1
          refine cr_sortedI pins s σ H _ us Q I rs ⟨a, is, rfl, h1.sq, fun ns' z hp hs hz => ?_⟩
          rw [sorted_one (hp.trans (sortI_perm is).symm) hs (sortI_sorted is)]
          exact p.lstF R (rds_ints _) z hz
        · exact p.elim
      · exact p.elim
    · exact p.elim
  case sum =>
    simp only [callB] at p
    split at p
    · obtain ⟨v, rfl, hv⟩ := one_V hd
      split at p
      · rename_i xs q
        obtain ⟨a, vs, rfl, h1, h2⟩ := R.lstI hv q
        split at p
        · rename_i is e
          rw [ints_V h2 e] at h1
          exact cr_sum hc pins s σ H _ us Q I rs ⟨a, is, rfl, h1.sq, p.here R RD.int'⟩
        · exact p.elim
      · exact p.elim
    · exact p.elim
  case max =>
    simp only [callB] at p
    split at p
    · obtain ⟨v, u, rfl, h1, h2⟩ := two_V hd
      exact call_max2 hc pins s σ H _ us Q I rs ⟨_, _, by rw [h1.int_inv, h2.int_inv], p.here R RD.int'⟩
    · obtain ⟨v, rfl, hv⟩ := one_V hd
      split at p
      · rename_i xs q
        obtain ⟨a, vs, rfl, h1, h2⟩ := R.lstI hv q
        split at p
        · rename_i i is e
          rw [ints_V h2 e] at h1
          refine cr_max hc pins s σ H _ us Q I rs ⟨a, i :: is, rfl, h1.sq, by simp, fun m hm hle => ?_⟩
          obtain ⟨m1, m2⟩ := foldmax is i
          rw [Int.le_antisymm (m2 m hm) (hle _ m1)]
          exact p.here R RD.int'
        · exact p.elim
      · exact p.elim
    · exact p.elim
  case min =>
    simp only [callB] at p
    split at p
    · obtain ⟨v, u, rfl, h1, h2⟩ := two_V hd
      exact call_min2 hc pins s σ H _ us Q I rs ⟨_, _, by rw [h1.int_inv, h2.int_inv], p.here R RD.int'⟩
    · exact p.elim
end
end EV

set_option Elab.async false
set_option linter.all false
set_option maxRecDepth 100000
set_option maxHeartbeats 1000000
/-! EV 4: what a def made is not changed any more. -/
namespace EV
open PySem PySem.Spec PyProof.Rows L2

/-! ### fewer places -/
section
variable {Y : Sy} {r r' : Rg} {H H' : Hp}
/-- as Goes, but for the places below n -/
structure GoU (n : Nat) (r : Rg) (H : Hp) (r' : Rg) (H' : Hp) : Prop where
  loc : ∀ (m : Nat) (a : Addr), m < n → r.o[m]? = some a → r'.o[m]? = some a
  obj : ∀ a o, H a = some o → ¬ r.has a → H' a = some o ∧ ¬ r'.has a
mutual
theorem RD.cut {n : Nat} (e : GoU n r H r' H') : ∀ {d : D} {v : V}, RD Y r H d v → D.undr n d = true → RD Y r' H' d v
  | .non, v, h, _ => by simpa only [RD] using h
  | .bl _, v, h, _ => by simpa only [RD] using h
  | .int _, v, h, _ => by simpa only [RD] using h
  | .str _, v, h, _ => by simpa only [RD] using h
  | .ty _, v, h, _ => by simpa only [RD] using h
  | .glo _, v, h, _ => by simpa only [RD] using h
  | .loc m, v, h, u => by
    obtain ⟨a, e1, e2⟩ := h.loc_inv
    unfold D.undr at u
    have hm : m < n := Nat.le_of_ble_eq_true u
    simp only [RD]
    exact ⟨a, e1, e.loc m a hm e2⟩
  | .tup ds, v, h, u => by
    obtain ⟨a, vs, h1, h2, hr⟩ := h.tup_inv
    unfold D.undr at u
    simp only [RD]
    refine ⟨a, vs, h1, ?_, RDs.cut e hr u⟩
    rcases h2 with ⟨h2, n⟩ | h2
    · exact .inl (e.obj a _ h2 n)
    · exact .inr h2
  | .lst ds, v, h, u => by
    obtain ⟨a, vs, h1, ⟨h2, n⟩, h3⟩ := h.lst_inv
    unfold D.undr at u
    simp only [RD]
    refine ⟨a, vs, h1, ?_, RDs.cut e h3 u⟩
    rcases h2 with h2 | ⟨ob, h2⟩
    · exact ⟨.inl (e.obj a _ h2 n).1, (e.obj a _ h2 n).2⟩
    · exact ⟨.inr ⟨ob, (e.obj a _ h2 n).1⟩, (e.obj a _ h2 n).2⟩
  | .dic ks ds, v, h, u => by
    obtain ⟨a, lvs, h1, ⟨h2, n⟩, h3, h4⟩ := h.dic_inv
    unfold D.undr at u
    simp only [RD]
    exact ⟨a, lvs, h1, e.obj a _ h2 n, h3, RDs.cut e h4 u⟩
  | .obj c ns ds, v, h, u => by
    obtain ⟨a, C, dx, fs, h1, ⟨h2, n⟩, h3, h4, h5⟩ := h.obj_inv
    unfold D.undr at u
    simp only [RD]
    exact ⟨a, C, dx, fs, h1, e.obj a _ h2 n, h3, h4, RDs.cut e h5 u⟩
theorem RDs.cut {n : Nat} (e : GoU n r H r' H') : ∀ {ds : List D} {vs : List V}, RDs Y r H ds vs → D.undrs n ds = true → RDs Y r' H' ds vs
  | [], vs, h, _ => by simpa only [RDs] using h
  | d :: ds, vs, h, u => by
    obtain ⟨v, t, rfl, h1, h2⟩ := h.cons_inv
    unfold D.undrs at u
    rw [Bool.and_eq_true] at u
    exact RDs.cons (RD.cut e h1 u.1) (RDs.cut e h2 u.2)
end
theorem RO.cut {n : Nat} {o : O} {a : Addr} (e : GoU n r H r' H') (ha : H' a = H a) (h : RO Y r H o a) (u : O.undr n o = true) : RO Y r' H' o a := by
  cases o with
  | lst xs => obtain ⟨vs, h, q⟩ := h; exact ⟨vs, ha.trans h, q.cut e u⟩
  | dic kvs => obtain ⟨lvs, h, q1, q2⟩ := h; exact ⟨lvs, ha.trans h, q1, q2.cut e u⟩
  | ins c fs => obtain ⟨C, dx, vs, h, q1, q2, q3⟩ := h; exact ⟨C, dx, vs, ha.trans h, q1, q2, q3.cut e u⟩
/-! ### trees for places -/
mutual
theorem frz_ok {res : Nat → Option D} (go : ∀ a o, H a = some o → ¬ r.has a → H a = some o ∧ ¬ r'.has a) (hres : ∀ m d' v, res m = some d' → RD Y r H (.loc m) v → RD Y r' H d' v) : ∀ {d d' : D} {v : V}, RD Y r H d v → frz res d = some d' → RD Y r' H d' v
  | .non, d', v, h, e => by simp only [frz, Option.some.injEq] at e; subst e; simpa only [RD] using h
  | .bl _, d', v, h, e => by simp only [frz, Option.some.injEq] at e; subst e; simpa only [RD] using h
  | .int _, d', v, h, e => by simp only [frz, Option.some.injEq] at e; subst e; simpa only [RD] using h
  | .str _, d', v, h, e => by simp only [frz, Option.some.injEq] at e; subst e; simpa only [RD] using h
  | .ty _, d', v, h, e => by simp only [frz, Option.some.injEq] at e; subst e; simpa only [RD] using h
  | .glo _, d', v, h, e => by simp only [frz, Option.some.injEq] at e; subst e; simpa only [RD] using h
  | .loc m, d', v, h, e => hres m d' v (by simpa only [frz] using e) h
  | .tup ds, d', v, h, e => by
    obtain ⟨a, vs, h1, h2, h3⟩ := h.tup_inv
    simp only [frz] at e
    split at e
    · rename_i ys q
      cases e
      simp only [RD]
      refine ⟨a, vs, h1, ?_, frzs_ok go hres h3 q⟩
      rcases h2 with ⟨h2, n⟩ | h2
      · exact .inl (go a _ h2 n)
      · exact .inr h2
    · cases e
  | .lst ds, d', v, h, e => by
    obtain ⟨a, vs, h1, ⟨h2, n⟩, h3⟩ := h.lst_inv
    simp only [frz] at e
    split at e
    · rename_i ys q
      cases e
      simp only [RD]
      refine ⟨a, vs, h1, ⟨h2, ?_⟩, frzs_ok go hres h3 q⟩
      obtain ⟨u, hu⟩ := h2.there
      exact (go a _ hu n).2
    · cases e
  | .dic ks ds, d', v, h, e => by
    obtain ⟨a, lvs, h1, ⟨h2, n⟩, h3, h4⟩ := h.dic_inv
    simp only [frz] at e
    split at e
    · rename_i ys q
      cases e
      simp only [RD]
      exact ⟨a, lvs, h1, go a _ h2 n, h3, frzs_ok go hres h4 q⟩
    · cases e
  | .obj c ns ds, d', v, h, e => by
    obtain ⟨a, C, dx, fs, h1, ⟨h2, n⟩, h3, h4, h5⟩ := h.obj_inv
    simp only [frz] at e
    split at e
    · rename_i ys q
      cases e
      simp only [RD]
      exact ⟨a, C, dx, fs, h1, go a _ h2 n, h3, h4, frzs_ok go hres h5 q⟩
    · cases e
theorem frzs_ok {res : Nat → Option D} (go : ∀ a o, H a = some o → ¬ r.has a → H a = some o ∧ ¬ r'.has a) (hres : ∀ m d' v, res m = some d' → RD Y r H (.loc m) v → RD Y r' H d' v) : ∀ {ds ds' : List D} {vs : List V}, RDs Y r H ds vs → frzs res ds = some ds' → RDs Y r' H ds' vs
  | [], ds', vs, h, e => by simp only [frzs, Option.some.injEq] at e; subst e; simpa only [RDs] using h
  | d :: ds, ds', vs, h, e => by
    obtain ⟨v, t, rfl, h1, h2⟩ := h.cons_inv
    simp only [frzs] at e
    split at e
    · rename_i y q
      split at e
      · rename_i ys q2
        cases e
        exact RDs.cons (frz_ok go hres h1 q) (frzs_ok go hres h2 q2)
      · cases e
    · cases e
end
end
section
variable {Y : Sy} {r r2 : Rg} {H H2 : Hp} {h h2 : Hs}
/-- the places from n on, forgotten -/
def Rg.first (r : Rg) (n : Nat) : Rg := ⟨r.f, r.o.take n⟩
theorem Rg.first_has {n : Nat} {a : Addr} (m : (r.first n).has a) : r.has a := by
  rcases m with m | m
  · exact .inl m
  · exact .inr (List.mem_of_mem_take m)
theorem Rg.go_first {n : Nat} : ∀ a o, H a = some o → ¬ r.has a → H a = some o ∧ ¬ (r.first n).has a := fun a o e n => ⟨e, fun m => n (Rg.first_has m)⟩
theorem RelH.last_new (R : RelH Y r H h) {n m : Nat} {a : Addr} (hm : ¬ m < n) (ha : r.o[m]? = some a) : ¬ (r.first n).has a := fun q => by
  rcases q with q | q
  · exact (R.frm a q).1 (List.mem_of_getElem? ha)
  · obtain ⟨k, hk, ek⟩ := List.getElem_of_mem q
    have hkl : k < (r.o.take n).length := hk
    rw [List.length_take] at hkl
    have e2 : r.o[k]? = some a := by
      rw [← ek]
      have : (r.o.take n)[k] = r.o[k]'(by omega) := List.getElem_take ..
      show r.o[k]? = some ((r.o.take n)[k])
      rw [this]
      exact List.getElem?_eq_getElem _
    obtain ⟨x1, x2⟩ := List.getElem?_eq_some_iff.mp ha
    obtain ⟨y1, y2⟩ := List.getElem?_eq_some_iff.mp e2
    have := (List.getElem_inj R.nd).mp (x2.trans y2.symm)
    omega
theorem resF_ok (R : RelH Y r H h) (n : Nat) : ∀ (f m : Nat) (d' : D) (v : V), resF h n f m = some d' → RD Y r H (.loc m) v → RD Y (r.first n) H d' v
  | 0, m, d', v, e, _ => by simp only [resF] at e; cases e
  | f + 1, m, d', v, e, hv => by
    obtain ⟨a, rfl, ha⟩ := hv.loc_inv
    simp only [resF] at e
    split at e
    · rename_i hm
      cases e
      simp only [RD]
      have hm : m < n := Nat.le_of_ble_eq_true hm
      refine ⟨a, rfl, ?_⟩
      show (r.o.take n)[m]? = some a
      rw [List.getElem?_take_of_lt hm]
      exact ha
    · rename_i hm
      have hm : ¬ m < n := fun q => hm (Nat.ble_eq_true_of_le q)
      have na := R.last_new hm ha
      split at e
      · rename_i xs q
        obtain ⟨vs, h1, h3⟩ := R.obj m _ a q ha
        split at e
        · rename_i ys q2
          cases e
          simp only [RD]
          exact ⟨a, vs, rfl, ⟨.inl h1, na⟩, frzs_ok Rg.go_first (resF_ok R n f) h3 q2⟩
        · cases e
      · rename_i kvs q
        obtain ⟨lvs, h1, h3, h4⟩ := R.obj m _ a q ha
        split at e
        · rename_i ys q2
          cases e
          simp only [RD]
          refine ⟨a, lvs, rfl, ⟨h1, na⟩, ?_, frzs_ok Rg.go_first (resF_ok R n f) h4 q2⟩
          rw [List.map_map]
          exact h3
        · cases e
      · rename_i c fs q
        obtain ⟨C, dx, vs, h1, h3, h4, h5⟩ := R.obj m _ a q ha
        split at e
        · rename_i ys q2
          cases e
          simp only [RD]
          exact ⟨a, C, dx, vs, rfl, ⟨h1, na⟩, h3, h4, frzs_ok Rg.go_first (resF_ok R n f) h5 q2⟩
        · cases e
      · cases e
/-- the heap as far as n -/
theorem RelH.first (R : RelH Y r H h) {n : Nat} (hn : n ≤ h.length) (u : (h.take n).all (O.undr n) = true) : RelH Y (r.first n) H (h.take n) := by
  have hl : n ≤ r.o.length := by rw [R.len]; exact hn
  refine ⟨?_, R.nd.sublist (List.take_sublist ..), fun a m => ⟨fun q => (R.frm a m).1 (List.mem_of_mem_take q), (R.frm a m).2⟩, fun k o a h1 h2 => ?_⟩
  · show (r.o.take n).length = (h.take n).length
    rw [List.length_take, List.length_take, R.len]
  · have hk : k < n := by
      have := (List.getElem?_eq_some_iff.mp h1).1
      rw [List.length_take] at this
      omega
    have uo : O.undr n o = true := List.all_eq_true.mp u o (List.mem_of_getElem? h1)
    rw [List.getElem?_take_of_lt hk] at h1
    have h2 : (r.o.take n)[k]? = some a := h2
    rw [List.getElem?_take_of_lt hk] at h2
    refine (R.obj k o a h1 h2).cut (n := n) ⟨fun m b hm hb => ?_, Rg.go_first⟩ rfl uo
    show (r.o.take n)[m]? = some b
    rw [List.getElem?_take_of_lt hm]
    exact hb
theorem Ext.first (R : RelH Y r H h) (e : Ext r H r2 H2) (n : Nat) (hn : n = h.length) : Ext r H (r2.first n) H2 := by
  obtain ⟨t, et⟩ := e.le
  have hr : r2.o.take n = r.o := by rw [et, hn, ← R.len]; simp
  refine ⟨e.lf, ⟨[], ?_⟩, e.fr, fun a m k => ?_, e.st⟩
  · show r2.o.take n = r.o ++ []
    rw [hr, List.append_nil]
  · have m : a ∈ r2.o.take n := m
    rw [hr] at m
    exact absurd m k
theorem Ext.len_le (R : RelH Y r H h) (e : Ext r H r2 H2) (R2 : RelH Y r2 H2 h2) : h.length ≤ h2.length := by
  obtain ⟨t, et⟩ := e.le
  rw [← R.len, ← R2.len, et, List.length_append]
  omega
theorem done_post {W : XK} {Q : VK} {d : D} {v : V} (R : RelH Y r H h) (e : Ext r H r2 H2) (R2 : RelH Y r2 H2 h2) (hv : RD Y r2 H2 d v) (p : Post Y (RD Y) r H W (done h.length d h2) Q) : Q v H2 := by
  unfold done at p
  split at p
  · rename_i d' q
    split at p
    · rename_i u
      exact p (r2.first h.length) H2 v (e.first R _ rfl) (R2.first (e.len_le R R2) u) (frz_ok Rg.go_first (resF_ok R2 h.length 4) hv q)
    · exact p.elim
  · exact p.elim
theorem exc_post {W : XK} {Q : VK} {c : Str} {x : Option D} {cls : Value} {da : Option Addr} (R : RelH Y r H h) (e : Ext r H r2 H2) (R2 : RelH Y r2 H2 h2) (hx : RX Y r2 H2 c x cls da)
    (p : Post Y (RD Y) r H W (if flatO x && (h2.take h.length).all (O.undr h.length) then .exc c x (h2.take h.length) else .bad) Q) : W cls da H2 := by
  split at p
  · rename_i u
    rw [Bool.and_eq_true] at u
    refine p (r2.first h.length) H2 cls da (e.first R _ rfl) (R2.first (e.len_le R R2) u.2) ⟨hx.1, ?_⟩
    cases x with
    | none => exact hx.2
    | some dv =>
      obtain ⟨b, f, v, h1, h3, h4⟩ := hx.2
      refine ⟨b, f, v, h1, Rg.go_first _ _ h3.1 h3.2, ?_⟩
      cases dv <;> first | (simpa only [RD] using h4) | (cases u.1)
  · exact p.elim
/-! ### calls of defs that know no place of ours -/
/-- our places are others' there -/
def Rg.under (r : Rg) : Rg := ⟨r.o ++ r.f, []⟩
theorem Rg.under_has {a : Addr} : r.under.has a ↔ r.has a := by
  unfold Rg.has Rg.under
  simp only [List.mem_append, List.not_mem_nil, or_false]
  exact or_comm
theorem RelH.under (R : RelH Y r H h) : RelH Y r.under H [] :=
  ⟨rfl, List.nodup_nil, fun a m => ⟨List.not_mem_nil, R.mem (Rg.under_has.mp (.inl m))⟩, fun n o a h1 _ => by simp at h1⟩
theorem nil_o {H : Hp} (R : RelH Y r H []) : r.o = [] := List.eq_nil_of_length_eq_zero R.len
/-- back -/
theorem back_ext {f : List Addr} (e : Ext ⟨f, []⟩ H r2 H2) : Ext r H r H2 :=
  ⟨⟨[], by simp⟩, ⟨[], by simp⟩, fun a o h n => e.fr a o h List.not_mem_nil, fun a m n => absurd m n, e.st⟩
theorem back_rel {f : List Addr} (R : RelH Y r H h) (e : Ext ⟨f, []⟩ H r2 H2) : RelH Y r H2 h :=
  R.keep (back_ext e) fun a m => by
    obtain ⟨u, q, _⟩ := R.mem m
    rw [q]
    exact e.fr a u q List.not_mem_nil
theorem back_go (e : Ext r.under H r2 H2) (R2 : RelH Y r2 H2 []) : Goes r2 H2 r H2 := by
  have ho := nil_o R2
  refine ⟨fun n a q => by rw [ho] at q; simp at q, fun a o q n => ⟨q, fun m => n ?_⟩⟩
  obtain ⟨t, et, _⟩ := e.lf
  have : a ∈ r.under.f := by
    rcases Rg.under_has.mpr m with m | m
    · exact m
    · exact absurd m List.not_mem_nil
  exact .inl (by rw [et]; exact List.mem_append_right _ this)
/-- what a call of a def asks -/
theorem callP_post {E : Ev} {f : Nat} {l : List D} {fv : List V} {W : XK} {Q : VK} (e2 : Ext r H r2 H2) (R2 : RelH Y r2 H2 h2) (hl : RDs Y r2 H2 l fv) (p : Post Y (RD Y) r H W (callP E f l h2) Q) :
    ∃ rc ds hc, RelH Y rc H2 hc ∧ RDs Y rc H2 ds fv ∧ Post Y (RD Y) rc H2 W (E.call f ds hc) Q := by
  unfold callP at p
  split at p
  · rename_i u
    refine ⟨r2.under, l, [], R2.under, hl.cut (n := 0) ⟨fun m a hm _ => absurd hm (Nat.not_lt_zero _), fun a o q n => ⟨q, fun m => n (Rg.under_has.mp m)⟩⟩ u, ?_⟩
    cases q : E.call f l [] with
    | bad => rw [q] at p; exact p.elim
    | exc c x hh =>
      rw [q] at p
      cases hh with
      | cons o t => exact p.elim
      | nil =>
        have p : Post Y (RD Y) r H W (if flatO x then .exc c x h2 else .bad) Q := p
        split at p
        · rename_i fx
          intro r3 H3 cls d e3 R3 hx
          have Rb := back_rel R2 e3
          exact p r2 H3 cls d (e2.trans (back_ext e3)) Rb (hx.go (back_go e3 R3))
        · exact p.elim
    | ok d hh =>
      rw [q] at p
      cases hh with
      | cons o t => exact p.elim
      | nil =>
        have p : Post Y (RD Y) r H W (.ok d h2) Q := p
        intro r3 H3 b e3 R3 hb
        exact p r2 H3 b (e2.trans (back_ext e3)) (back_rel R2 e3) (hb.go (back_go e3 R3))
  · exact ⟨r2, l, h2, R2, hl, p.shift e2⟩
end
end EV

set_option Elab.async false
set_option linter.all false
set_option maxRecDepth 100000
set_option maxHeartbeats 1000000
/-! EV 5: readings of code; calls. -/
namespace EV
open PySem PySem.Spec PyProof.Rows L2

def isStarE : Expr → Bool
  | .Starred _ _ => true
  | _ => false
def relB (_ : Rg) (_ : Hp) (d : D) (b : Bool) : Prop := d = .bl b
def tE (Y : Sy) (W : WX) (E : Ev) (c : C) : TE := fun σ H Q => ∃ r L h, RelL Y r H σ L ∧ RelH Y r H h ∧ Post Y (RD Y) r H (fun cls d H' => W cls d σ H') (ex E c false L h) Q
def tT (Y : Sy) (W : WX) (E : Ev) (c : C) : TT := fun σ H Q => ∃ r L h, RelL Y r H σ L ∧ RelH Y r H h ∧ Post Y relB r H (fun cls d H' => W cls d σ H') (ex E c true L h) Q
def tA (Y : Sy) (W : WX) (E : Ev) (c : Cs) : TA := fun σ H Q => ∃ r L h, RelL Y r H σ L ∧ RelH Y r H h ∧ Post Y (RDs Y) r H (fun cls d H' => W cls d σ H') (exs E c L h) Q
/-- what an iterator of the layer yields -/
def RI (Y : Sy) (r : Rg) (H : Hp) (s : Src) (J : L2.It) : Prop :=
  ∀ (i : Nat) (r' : Rg) (H' : Hp) (h' : Hs), Goes r H r' H' → RelH Y r' H' h' → chk s h' = true →
    (∀ d, s.xs[i]? = some d → J.go i H' ∧ ∀ x H'', J.yld i H' x H'' → Ext r' H' r' H'' ∧ RelH Y r' H'' h' ∧ RD Y r' H'' d x) ∧ (s.xs.length = i → J.stop i H')
def tI (Y : Sy) (W : WX) (E : Ev) (c : It) : TI := fun σ H Q => ∃ r L h, RelL Y r H σ L ∧ RelH Y r H h ∧ Post Y (RI Y) r H (fun cls d H' => W cls d σ H') (exI E c L h) Q
def tAs (Y : Sy) (W : WX) (E : Ev) (c : Cs) : TT := fun σ H Q => ∃ r L h, RelL Y r H σ L ∧ RelH Y r H h ∧ Post Y (fun _ _ (a b : Bool) => a = b) r H (fun cls d H' => W cls d σ H') (exA E c L h) Q

/-! ### a def's promise -/
def spF (Y : Sy) (E : Ev) (f : Nat) : Sp := fun vs H Q Ex => ∃ r ds h, RelH Y r H h ∧ RDs Y r H ds vs ∧ Post Y (RD Y) r H Ex (E.call f ds h) Q
def SlR1 (Y : Sy) : Sl → Slp V → Slp Value → Prop
  | .pos j, .pos j2, .pos j3 => j = j2 ∧ j = j3
  | .kw j, .kw j2, .kw j3 => j = j2 ∧ j = j3
  | .dfl d, .dfl v, .dfl u => (∀ r H, RD Y r H d v) ∧ RelV v u
  | _, _, _ => False
def SlRs (Y : Sy) : List Sl → List (Slp V) → List (Slp Value) → Prop
  | [], [], [] => True
  | a :: as, b :: bs, c :: cs => SlR1 Y a b c ∧ SlRs Y as bs cs
  | _, _, _ => False
/-- how a call of n positional values and the keywords kn binds -/
def BindOk (Y : Sy) (fd : FuncData) (ps : List Str) (n : Nat) (kn : List Str) (sl : List Sl) : Prop :=
  ∃ sv su, SlRs Y sl sv su ∧ ∀ (s : Shared) (us ws : List Value), Y.K.In s.heap → us.length = n → ws.length = kn.length → ∃ full, arr us ws su = some full ∧ BindsTo s fd ⟨us, kn.zip ws⟩ (ps.zip full)
theorem arr_vals {Y : Sy} {vs zs : List V} {us ws : List Value} (r1 : Vals vs us) (r2 : Vals zs ws) : ∀ {sl : List Sl} {sv : List (Slp V)} {su : List (Slp Value)} {full : List Value}, SlRs Y sl sv su → arr us ws su = some full → ∃ fv, arr vs zs sv = some fv ∧ Vals fv full
  | [], [], [], full, _, e => by simp only [arr, Option.some.injEq] at e; subst e; exact ⟨[], rfl, .nil⟩
  | [], [], _ :: _, _, h, _ => h.elim
  | [], _ :: _, _, _, h, _ => h.elim
  | _ :: _, [], _, _, h, _ => h.elim
  | _ :: _, _ :: _, [], _, h, _ => h.elim
  | a :: as, b :: bs, c :: cs, full, h, e => by
    have one : ∀ u, arr1 us ws c = some u → ∃ v, arr1 vs zs b = some v ∧ RelV v u := fun u e => by
      obtain ⟨h1, _⟩ := h
      cases a with
      | pos j => cases b with
        | pos j2 => cases c with
          | pos j3 =>
            obtain ⟨rfl, rfl⟩ := h1
            have e : us[j]? = some u := e
            obtain ⟨hl, e2⟩ := List.getElem?_eq_some_iff.mp e
            have hl2 : j < vs.length := by rw [r1.length]; exact hl
            obtain ⟨u2, h3, h4⟩ := r1.get (List.getElem?_eq_getElem hl2)
            rw [e] at h3
            cases h3
            exact ⟨vs[j], List.getElem?_eq_getElem hl2, h4⟩
          | _ => exact (show False from h1).elim
        | _ => exact (show False from h1).elim
      | kw j => cases b with
        | kw j2 => cases c with
          | kw j3 =>
            obtain ⟨rfl, rfl⟩ := h1
            have e : ws[j]? = some u := e
            obtain ⟨hl, e2⟩ := List.getElem?_eq_some_iff.mp e
            have hl2 : j < zs.length := by rw [r2.length]; exact hl
            obtain ⟨u2, h3, h4⟩ := r2.get (List.getElem?_eq_getElem hl2)
            rw [e] at h3
            cases h3
            exact ⟨zs[j], List.getElem?_eq_getElem hl2, h4⟩
          | _ => exact (show False from h1).elim
        | _ => exact (show False from h1).elim
      | dfl d => cases b with
        | dfl v => cases c with
          | dfl w =>
            cases e
            exact ⟨_, rfl, h1.2⟩
          | _ => exact (show False from h1).elim
        | _ => exact (show False from h1).elim
    unfold arr at e ⊢
    split at e
    · rename_i u q
      obtain ⟨v, h3, h4⟩ := one u q
      split at e
      · rename_i l q2
        cases e
        obtain ⟨fv, h5, h6⟩ := arr_vals r1 r2 h.2 q2
        rw [h3]
        simp only [h5]
        exact ⟨_, rfl, .cons h4 h6⟩
      · cases e
    · cases e
theorem arr_rds {Y : Sy} {r : Rg} {H : Hp} {ds es : List D} {vs zs : List V} (r1 : RDs Y r H ds vs) (r2 : RDs Y r H es zs) : ∀ {sl : List Sl} {sv : List (Slp V)} {su : List (Slp Value)} {l : List D} {fv : List V}, SlRs Y sl sv su → arr ds es sl = some l → arr vs zs sv = some fv → RDs Y r H l fv
  | [], [], [], l, fv, _, e, e2 => by
    simp only [arr, Option.some.injEq] at e e2
    subst e e2
    exact RDs.nil
  | [], [], _ :: _, _, _, h, _, _ => h.elim
  | [], _ :: _, _, _, _, h, _, _ => h.elim
  | _ :: _, [], _, _, _, h, _, _ => h.elim
  | _ :: _, _ :: _, [], _, _, h, _, _ => h.elim
  | a :: as, b :: bs, c :: cs, l, fv, h, e, e2 => by
    unfold arr at e e2
    split at e
    · rename_i d q
      split at e
      · rename_i l2 q2
        cases e
        split at e2
        · rename_i v q3
          split at e2
          · rename_i fv2 q4
            cases e2
            refine RDs.cons ?_ (arr_rds r1 r2 h.2 q2 q4)
            obtain ⟨h1, _⟩ := h
            cases a with
            | pos j => cases b with
              | pos j2 => cases c with
                | pos j3 =>
                  obtain ⟨rfl, rfl⟩ := h1
                  obtain ⟨v2, h3, h4⟩ := r1.get q
                  have q3 : vs[j]? = some v := q3
                  rw [q3] at h3
                  cases h3
                  exact h4
                | _ => exact (show False from h1).elim
              | _ => exact (show False from h1).elim
            | kw j => cases b with
              | kw j2 => cases c with
                | kw j3 =>
                  obtain ⟨rfl, rfl⟩ := h1
                  obtain ⟨v2, h3, h4⟩ := r2.get q
                  have q3 : zs[j]? = some v := q3
                  rw [q3] at h3
                  cases h3
                  exact h4
                | _ => exact (show False from h1).elim
              | _ => exact (show False from h1).elim
            | dfl d => cases b with
              | dfl v => cases c with
                | dfl w =>
                  cases q
                  cases q3
                  exact h1.1 r H
                | _ => exact (show False from h1).elim
              | _ => exact (show False from h1).elim
          · cases e2
        · cases e2
      · cases e
    · cases e

section
variable {X : Cx} {k : Nat} {f : Addr} {fd : FuncData} {ps : List Str} {sp : Sp} {W : WX} {x : Str} {p pos : Pos} {es : List Expr} {kws : List Keyword} {t tk : TA} {n : Nat} {kn : List Str} {sl : List Sl}
/-- a call of an own def: what is asked -/
def tOwn (Y : Sy) (sl : List Sl) (n m : Nat) (sp : Sp) (W : WX) (t tk : TA) : TE := fun σ H Q => t σ H fun vs H1 => tk σ H1 fun zs H2 => vs.length = n ∧ zs.length = m ∧ ∀ sv su fv, SlRs Y sl sv su → arr vs zs sv = some fv → sp fv H2 Q (WE W σ)
theorem run_own {pins : List (Addr × Obj)} {σ : L2.St} {H : Hp} {s : Shared} {Q : VK} {us ws : List Value} {vs zs : List V} (F : FnOk X.prog X.w X.K X.mg X.base (CX X.prog X.w) k f fd ps sp) (hr : Room k X.A) (hb : BindOk (sy X) fd ps n kn sl) (tkx : Takes X W)
    (I : Inv X pins σ H s) (r1 : Vals vs us) (r2 : Vals zs ws) (hn : vs.length = n) (hm : zs.length = kn.length) (h : ∀ sv su fv, SlRs (sy X) sl sv su → arr vs zs sv = some fv → sp fv H Q (WE W σ)) : wpAny (model X.prog X.w) X.A (call (.ref f) us (kn.zip ws)) (EP X pins σ Q) X.xe s := by
  obtain ⟨sv, su, hs, hb⟩ := hb
  obtain ⟨full, e1, e2⟩ := hb s us ws I.kIn (by rw [← r1.length]; exact hn) (by rw [← r2.length]; exact hm)
  obtain ⟨fv, e3, e4⟩ := arr_vals r1 r2 hs e1
  refine wpAny_call (codeAny_mono (F.run X.A X.stack s H ⟨us, kn.zip ws⟩ full fv Q (WE W σ) hr I.env0 e2 e4 (h sv su fv hs e3)) fun r s' hq => ?_)
  cases r with
  | error e => exact passAt tkx σ pins H s e s' I hq
  | ok fl =>
    cases fl with
    | ret u => exact I.after hq
    | next => exact False.elim hq
    | brk => exact False.elim hq
    | cont => exact False.elim hq
theorem starEach_no {e : Expr} {es : List Expr} {env : Env} (h : isStarE e = false) : starEach (e :: es) env = (false, eval e env) :: starEach es env := by
  cases e <;> first | rfl | cases h
end
end EV

set_option Elab.async false
set_option linter.all false
set_option maxRecDepth 100000
set_option maxHeartbeats 1000000
/-! EV: enumerate(t), t a tuple. -/
namespace EV
open PySem PySem.Spec PyProof.Rows L2
open Sem (wp)
open AutoSeq1 (wpAny_loadPart')

abbrev tupIt (l : Addr) : Obj := { cls := .type "tuple_iterator", data := .fields #[.ref l, .int 0 0] }
abbrev enumO (i : Addr) : Obj := { cls := .type "enumerate", data := .fields #[.none, .bool false, .ref i, rawInt 0, .none, .none] }
theorem meets_enumT (l : Addr) (its : Array Value) (n : Nat) (dct : Option Addr) (sl : Array (Option Value)) :
    Meets (Builtin.«enumerate.__new__» ⟨[.type "enumerate", .ref l], []⟩) (fun _ R s => s.heap.get? l = some { cls := .type "tuple", dict := dct, data := .seq its n, slots := sl } ∧
      R (.ok (.ret (.ref (s.heap.push (tupIt l)).objs.size))) { s with heap := (s.heap.push (tupIt l)).push (enumO s.heap.objs.size) }) :=
  .of_wp fun prog w A R s h => by
    obtain ⟨hp, g, d, tk, os⟩ := s
    obtain ⟨hl, h⟩ := h
    have hsub := sub_enumerate
    have hT : Heap.IsTuple (Shared.heap ⟨hp, g, d, tk, os⟩) l its := ⟨_, hl, rfl, n, rfl⟩
    wp_walk using wpAny_loadPart' hl
    refine wpAny_stack_any fun st => wpAny_pure ?_
    split
    · rename_i c _ _ _ _ _
      cases (c == Value.type "enumerate")
      · wp_walk using wpAny_loadPart' hl, wpAny_pyIter_tuple hT
        exact ⟨_, rfl, h⟩
      · wp_walk using wpAny_loadPart' hl, wpAny_pyIter_tuple hT
        exact ⟨_, rfl, h⟩
    · wp_walk using wpAny_loadPart' hl, wpAny_pyIter_tuple hT
      exact ⟨_, rfl, h⟩
theorem call_enumT {prog : Program} {w : World} {A : Around} {E : Value → Shared → Prop} {s : Shared} {l : Addr} {its : Array Value} {Q : Value → Shared → Prop} (hL : s.heap.IsTuple l its)
    (h : ∀ h', IsEnum h' (s.heap.objs.size + 1) s.heap.objs.size 0 .none → h'.IsTupleIter s.heap.objs.size l 0 →
      (∀ b o, s.heap.get? b = some o → h'.get? b = some o) → Q (.ref (s.heap.objs.size + 1)) { s with heap := h' }) : wpAny (model prog w) A (call (.type "enumerate") [.ref l]) Q E s := by
  obtain ⟨⟨c, dct, dt, sl⟩, hl, hc, n, hd⟩ := hL
  replace hc : c = .type "tuple" := hc
  replace hd : dt = .seq its n := hd
  subst hc hd
  refine callType_new F.called_enumerate (by decide) (F.typeCall_enumerate_1 _) (F.newCall_enumerate_1 _) (fun obj => F.args_object_init_2 obj _) F.entry_enumerate_new (meets_enumT l its n dct sl) ⟨hl, ?_⟩
  have hz : (s.heap.push (tupIt l)).objs.size = s.heap.objs.size + 1 := Heap.size_push ..
  show _ ∧ _
  rw [hz]
  have he : IsEnum ((s.heap.push (tupIt l)).push (enumO s.heap.objs.size)) (s.heap.objs.size + 1) s.heap.objs.size 0 .none := by
    have z := Heap.get?_push_size (s.heap.push (tupIt l)) (o := enumO s.heap.objs.size) rfl
    rw [hz] at z
    exact z
  exact ⟨⟨_, he, rfl⟩, h _ he ⟨_, Heap.get?_push_of_some _ (Heap.get?_push_size _ rfl), rfl, rfl⟩ fun b o x => Heap.get?_push_of_some _ (Heap.get?_push_of_some _ x)⟩
/-- the tuple at a, each item in a new pair -/
def IteT (K : PySem.W.Frag) (a : Addr) : L2.It :=
  ⟨fun i H => ∃ (xs : List V) (x : V), SqT K H a xs ∧ xs[i]? = some x, fun i H v H' => ∃ T x, v = .ref T ∧ H T = none ∧ H' = upd H T (.tup [.int (i : Nat), x]) ∧ ∀ xs, SqT K H a xs → xs[i]? = some x, fun i H => ∃ xs : List V, SqT K H a xs ∧ xs.length = i⟩
theorem turn_enumT {P : Program} {w : World} {K : PySem.W.Frag} {elts : List Expr} {kk : Nat} {tpos : Pos} (a e it : Addr) :
    Turn P w K (.Tuple elts kk tpos) (IteT K a) [e, it] e (fun i h => (∃ old, IsEnum h e it ((i : Nat) : Int) old) ∧ h.IsTupleIter it a i ∧ e ≠ it ∧ a ≠ it ∧ a ≠ e) where
  mem := by simp
  obj := fun i h st b hb => by
    obtain ⟨⟨old, he⟩, ⟨o, ho, hc, hd⟩, _⟩ := st
    have e' : b = e ∨ b = it := by simpa using hb
    rcases e' with z | z
    · rw [z]; exact ⟨_, he, fun v q => nomatch q⟩
    · rw [z]; exact ⟨o, ho, fun v q => by rw [hd] at q; cases q⟩
  keep := fun i h h' st k => let ⟨⟨old, he⟩, hi, hne⟩ := st; ⟨⟨old, k e (by simp) _ he⟩, hi.at fun o q => k it (by simp) o q, hne⟩
  item := by
    intro X hP hw hK hc i pins s σ H E I hf st hg
    subst hP hw hK
    obtain ⟨⟨old, he⟩, hit, hne, hna, hae⟩ := st
    obtain ⟨xs, x, hq, hx⟩ := hg
    obtain ⟨its, rv, p, hz⟩ := I.tuple hq
    obtain ⟨u, hu, ru⟩ := rv.get hx
    have hel : e < s.heap.objs.size := Heap.lt_size he
    have hil : it < s.heap.objs.size := by obtain ⟨_, q, _⟩ := hit; exact Heap.lt_size q
    have hi : i < its.toArray.size := by
      have := (List.getElem?_eq_some_iff.mp hu).1
      simpa using this
    refine wpAny_pyNext_enum_itemD (Draws.tuple (A := X.A.in1) (I.ok.hd hc) it a hna its.toArray) he ⟨hit, p⟩ hi hne (by simp [hne, Ne.symm hae]) fun y h' tk hy ho hst hT hsz hk => ?_
    have ey : y = u := by
      have z : its[i]? = some y := by simpa using hy
      rw [hu] at z
      exact (Option.some.inj z).symm
    subst ey
    refine ⟨_, rfl, wpAny_letOwnedTupleGo_enum (s := { s with heap := h', toks := tk + 1 }) ho fun h'' he' sb => ?_⟩
    have hT2 : h''.get? s.heap.objs.size = some { cls := .type "tuple", data := .seq #[.int i tk, y] } := (sb.2 _ (Nat.ne_of_gt hel)).trans hT
    have new : ObjOk X.prog X.w (upd H s.heap.objs.size (.tup [.int (i : Nat), x])) h'' s.heap.objs.size (.tup [.int (i : Nat), x]) :=
      ⟨by show 2 ≤ sizeLine; decide, [.int i tk, y], .cons ⟨_, rfl⟩ (.cons ru .nil), ⟨_, hT2, rfl, _, rfl⟩⟩
    have I1 : Inv X pins σ (upd H s.heap.objs.size (.tup [.int (i : Nat), x])) { s with heap := h'', toks := tk + 1 } :=
      I.turnedNew (ch := [e, it]) (fun b ob hb q => (sb.2 b (fun z => hb (by simp [z]))).trans (hk b ob (fun z => hb (by simp [z])) (fun z => hb (by simp [z])) q)) hf (Nat.le_refl _) new
    refine ⟨.ref s.heap.objs.size, _, I1, rfl, ⟨_, x, rfl, I.hok.fresh (Nat.le_refl _), rfl, fun ys hy => by rw [I.tuple_inj hy hq]; exact hx⟩, ⟨⟨y, ?_⟩, hst.1.at fun o q => (sb.2 it (Ne.symm hne)).trans q, hne, hna, hae⟩, fun b hb => ?_⟩
    · have e1 : ((i + 1 : Nat) : Int) = (i : Int) + 1 := by omega
      rw [e1]
      exact he'
    · have hb' : b < s.heap.objs.size := by
        have e' : b = e ∨ b = it := by simpa using hb
        rcases e' with z | z
        · rw [z]; exact hel
        · rw [z]; exact hil
      rw [upd_ne (Nat.ne_of_lt hb')]
      exact (hf b hb).1
  done := by
    intro X hP hw hK hc i pins s σ H E I hf st hg
    subst hP hw hK
    obtain ⟨⟨old, he⟩, hit, hne, hna, hae⟩ := st
    obtain ⟨xs, hq, hx⟩ := hg
    obtain ⟨its, rv, p, hz⟩ := I.tuple hq
    obtain ⟨f0, f1, f2, f3, f4, f5⟩ := hf it (by simp)
    have hl := rv.length
    have hi : i = its.toArray.size := by simp; omega
    subst hi
    exact wpAny_pyNext_enum_endD (Draws.tuple (A := X.A.in1) (I.ok.hd hc) it a hna its.toArray) he ⟨hit, p⟩ fun h' eb => ⟨rfl, I.turned (t' := s.toks) (fun b o hb q => eb b o hb q) f0 f1 f3 f4 f5⟩
  self := fun A i s Q E st h => let ⟨⟨_, he⟩, _⟩ := st; wpAny_pyIter_enum he h
def iEnumT (K : PySem.W.Frag) (ta : TA) : TI := fun σ H R => ta σ H fun vs H1 => ∃ a xs, vs = [.ref a] ∧ SqT K H1 a xs ∧ R (IteT K a) H1
theorem pi_enumT {X : Cx} {e : Expr} {ta : TA} {p pos tpos : Pos} {elts : List Expr} {kk : Nat} (hg : Gl X "enumerate") (hm : X.mg "enumerate" = none) (ha : PA X [e] ta) (hs : starEach [e] X.env = [(false, eval e X.env)]) :
    PI X (.Tuple elts kk tpos) (.Call (.Name "enumerate" p) [e] [] pos) (iEnumT X.K ta) := by
  refine ⟨fun pins s σ H R I h => ?_⟩
  refine Call_ (ld_blt I hg hm boot_enumerate (PyProof.Rows.callWith_type1 (thn (ha.run pos pins s σ H _ I h) fun us s1 ⟨vs, H1, I1, r1, q1⟩ => ?_) hs rfl))
  obtain ⟨a, xs, ex, hq, q⟩ := q1
  subst ex
  cases r1 with
  | cons r rr =>
    cases rr
    cases r
    obtain ⟨its, rv, p', hz⟩ := I1.tuple hq
    refine call_enumT (show s1.heap.IsTuple a its.toArray from p') fun h' he hit hk => wpAny_pyIter_enum he ?_
    have I2 : Inv X pins σ H1 { s1 with heap := h' } := I1.kept (t' := s1.toks) hk
    have hal : a < s1.heap.objs.size := p'.lt
    refine ⟨s1.heap.objs.size + 1, [s1.heap.objs.size + 1, s1.heap.objs.size], _, _, H1, rfl, I2, turn_enumT a (s1.heap.objs.size + 1) s1.heap.objs.size, ⟨⟨.none, he⟩, hit, Nat.succ_ne_self _, Nat.ne_of_lt hal, Nat.ne_of_lt (Nat.lt_succ_of_lt hal)⟩, fun b hb => ?_, q⟩
    have e' : b = s1.heap.objs.size + 1 ∨ b = s1.heap.objs.size := by simpa using hb
    have hle : s1.heap.objs.size ≤ b := by
      rcases e' with z | z
      · rw [z]; exact Nat.le_add_right _ _
      · rw [z]; exact Nat.le_refl _
    exact I1.fpOk hle (I1.hok.fresh hle)
/-- .. or of a list -/
def iEnumA (K : PySem.W.Frag) (ta : TA) : TI := fun σ H R => ta σ H fun vs H1 => ∃ a xs, vs = [.ref a] ∧ ((SqT K H1 a xs ∧ R (IteT K a) H1) ∨ (SqL K H1 a xs ∧ R (Ite K a) H1))
theorem pi_enumA {X : Cx} {e : Expr} {ta : TA} {p pos tpos : Pos} {elts : List Expr} {kk : Nat} (hg : Gl X "enumerate") (hm : X.mg "enumerate" = none) (ha : PA X [e] ta) (hs : starEach [e] X.env = [(false, eval e X.env)]) :
    PI X (.Tuple elts kk tpos) (.Call (.Name "enumerate" p) [e] [] pos) (iEnumA X.K ta) := by
  refine ⟨fun pins s σ H R I h => ?_⟩
  refine Call_ (ld_blt I hg hm boot_enumerate (PyProof.Rows.callWith_type1 (thn (ha.run pos pins s σ H _ I h) fun us s1 ⟨vs, H1, I1, r1, q1⟩ => ?_) hs rfl))
  obtain ⟨a, xs, ex, q⟩ := q1
  subst ex
  cases r1 with
  | cons r rr =>
    cases rr
    cases r
    have fresh : ∀ b, b ∈ [s1.heap.objs.size + 1, s1.heap.objs.size] → FpOk X pins H1 b := fun b hb => by
      have e' : b = s1.heap.objs.size + 1 ∨ b = s1.heap.objs.size := by simpa using hb
      have hle : s1.heap.objs.size ≤ b := by
        rcases e' with z | z
        · rw [z]; exact Nat.le_add_right _ _
        · rw [z]; exact Nat.le_refl _
      exact I1.fpOk hle (I1.hok.fresh hle)
    rcases q with ⟨hq, q⟩ | ⟨hq, q⟩
    · obtain ⟨its, rv, p', hz⟩ := I1.tuple hq
      refine call_enumT (show s1.heap.IsTuple a its.toArray from p') fun h' he hit hk => wpAny_pyIter_enum he ?_
      have I2 : Inv X pins σ H1 { s1 with heap := h' } := I1.kept (t' := s1.toks) hk
      have hal : a < s1.heap.objs.size := p'.lt
      exact ⟨s1.heap.objs.size + 1, [s1.heap.objs.size + 1, s1.heap.objs.size], _, _, H1, rfl, I2, turn_enumT a (s1.heap.objs.size + 1) s1.heap.objs.size, ⟨⟨.none, he⟩, hit, Nat.succ_ne_self _, Nat.ne_of_lt hal, Nat.ne_of_lt (Nat.lt_succ_of_lt hal)⟩, fresh, q⟩
    · obtain ⟨its, rv, p', hz⟩ := I1.list hq
      refine call_enumerate_list p'.isList fun h' he hit hsz hk => wpAny_pyIter_enum he ?_
      have I2 : Inv X pins σ H1 { s1 with heap := h' } := I1.kept (t' := s1.toks) hk
      exact ⟨s1.heap.objs.size + 1, [s1.heap.objs.size + 1, s1.heap.objs.size], _, _, H1, rfl, I2, turn_enum a (s1.heap.objs.size + 1) s1.heap.objs.size, ⟨⟨.none, he⟩, hit, Nat.succ_ne_self _⟩, fresh, q⟩
end EV

set_option Elab.async false
set_option linter.all false
set_option maxRecDepth 100000
set_option maxHeartbeats 4000000
/-! EV 6: code held against the syntax. -/
namespace EV
open PySem PySem.Spec PyProof.Rows L2

/-! ### checks -/
structure Tab where
  gs : List (Option Str)
  fns : List (Option Str)
  shs : List (Nat × Nat × List Str × List Sl)
  cs : List (Option Str)
  ini : List (Option Nat)
def nameB : B → Str
  | .len => "len"
  | .int => "int"
  | .isi => "isinstance"
  | .all => "all"
  | .any => "any"
  | .tuple => "tuple"
  | .list => "list"
  | .listM => "list"
  | .sorted => "sorted"
  | .sum => "sum"
  | .max => "max"
  | .min => "min"
def nameM : M → Str
  | .append => "append"
  | .extend => "extend"
  | .get => "get"
def visB (sc : Scope) (x : Str) : Bool := match sc.names.lookup x with
  | some .local => true
  | some .cell => true
  | some .free => true
  | _ => false
def glB (sc : Scope) (x : Str) : Bool := match sc.names.lookup x with
  | some .globalImplicit => !decide (x = ("__debug__" : Str))
  | _ => false
def locB (fb : Str → Bool) (sc : Scope) (x : Str) : Bool := match sc.names.lookup x with
  | some .local => true
  | some .cell => fb x
  | _ => false
theorem visB_ok {sc : Scope} {x : Str} (h : visB sc x = true) : Vis sc x := by
  unfold visB at h
  split at h <;> first | exact .inl (by assumption) | exact .inr (.inl (by assumption)) | exact .inr (.inr (by assumption)) | cases h
theorem glB_ok {sc : Scope} {x : Str} (h : glB sc x = true) : sc.names.lookup x = some .globalImplicit ∧ (x == ("__debug__" : Str)) = false := by
  unfold glB at h
  split at h
  · refine ⟨by assumption, ?_⟩
    simp only [Bool.not_eq_true', decide_eq_false_iff_not] at h
    exact beq_eq_false_iff_ne.mpr h
  · cases h
theorem locB_ok {fb : Str → Bool} {sc : Scope} {x : Str} (h : locB fb sc x = true) : Loc sc x ∧ (fb x = true ∨ sc.names.lookup x = some .local) := by
  unfold locB at h
  split at h
  · exact ⟨.inl (by assumption), .inr (by assumption)⟩
  · exact ⟨.inr (by assumption), .inl h⟩
  · cases h
def isSetE : Expr → Bool
  | .Set _ _ _ => true
  | _ => false
def isSlE : Expr → Bool
  | .Slice _ _ _ _ => true
  | _ => false
/-- super() is not the receiver -/
def isCall0 : Expr → Bool
  | .Call (.Name _ _) [] [] _ => true
  | _ => false
def tgOk (N : List Str) (fb : Str → Bool) (sc : Scope) : Tg → Expr → Bool
  | .name i, .Name x _ => decide (N[i]? = some x) && locB fb sc x
  | .tup ts, .Tuple es _ _ => tgsOk ts es
  | _, _ => false
where tgsOk : List Nat → List Expr → Bool
  | [], [] => true
  | i :: is, .Name x _ :: es => decide (N[i]? = some x) && locB fb sc x && tgsOk is es
  | _, _ => false
def tgIn (vs : List Nat) : Tg → Bool
  | .name i => vs.contains i
  | .tup ts => ts.all vs.contains
def isTupE : Expr → Bool
  | .Tuple _ _ _ => true
  | _ => false
def tyNames : List Str := ["int", "bool", "str", "tuple", "list", "dict"]
def lenCs : Cs → Nat
  | .nil => 0
  | .cons _ r => lenCs r + 1
  | .star _ r => lenCs r + 1
def noStar : Cs → Bool
  | .nil => true
  | .cons _ r => noStar r
  | .star _ _ => false
mutual
def okE (T : Tab) (N : List Str) : C → Scope → Expr → Bool
  | .var i, sc, e => (match e with
    | .Name x _ => decide (N[i]? = some x) && visB sc x && !decide (x = ("__debug__" : Str)) && !decide (x = ("__classdict__" : Str))
    | _ => false)
  | .cint i, _, e => (match e with
    | .Constant (.int j) _ _ => decide (i = j)
    | _ => false)
  | .cbl b, _, e => (match e with
    | .Constant (.bool c) _ _ => b == c
    | _ => false)
  | .cnon, _, e => (match e with
    | .Constant .none _ _ => true
    | _ => false)
  | .cstr x, _, e => (match e with
    | .Constant (.str y) _ _ => decide (x = y)
    | _ => false)
  | .glo i, sc, e => (match e with
    | .Name y _ => decide (T.gs[i]? = some (some y)) && glB sc y
    | _ => false)
  | .tyv n, sc, e => (match e with
    | .Name y _ => decide (y = Str.ofString n) && glB sc y && tyOk n
    | _ => false)
  | .bin op a b, sc, e => (match e with
    | .BinOp l o r _ => decide (op = o) && okE T N a sc l && okE T N b sc r
    | _ => false)
  | .neg a, sc, e => (match e with
    | .UnaryOp .USub x _ => okE T N a sc x
    | _ => false)
  | .cmp op a b, sc, e => (match e with
    | .Compare l [o] [r] _ => decide (op = o) && !isSetE r && okE T N a sc l && okE T N b sc r
    | _ => false)
  | .chain op op2 a b c, sc, e => (match e with
    | .Compare l [o, o2] [r, r2] _ => decide (op = o) && decide (op2 = o2) && !isSetE r && !isSetE r2 && okE T N a sc l && okE T N b sc r && okE T N c sc r2
    | _ => false)
  | .and a b, sc, e => (match e with
    | .BoolOp .And (x :: y :: []) _ => okE T N a sc x && okE T N b sc y
    | .BoolOp .And (x :: y :: z :: r) pos => okE T N a sc x && okE T N b sc (.BoolOp .And (y :: z :: r) pos)
    | _ => false)
  | .or a b, sc, e => (match e with
    | .BoolOp .Or (x :: y :: []) _ => okE T N a sc x && okE T N b sc y
    | .BoolOp .Or (x :: y :: z :: r) pos => okE T N a sc x && okE T N b sc (.BoolOp .Or (y :: z :: r) pos)
    | _ => false)
  | .not a, sc, e => (match e with
    | .UnaryOp .Not x _ => okE T N a sc x
    | _ => false)
  | .ife t a b, sc, e => (match e with
    | .IfExp c x y _ => okE T N t sc c && okE T N a sc x && okE T N b sc y
    | _ => false)
  | .tup es, sc, e => (match e with
    | .Tuple xs _ _ => oks T N es sc xs
    | _ => false)
  | .lst _ es, sc, e => (match e with
    | .List xs _ => oks T N es sc xs
    | _ => false)
  | .dnew, _, e => (match e with
    | .Dict [] [] _ => true
    | _ => false)
  | .dvals o, sc, e => (match e with
    | .Call (.Name x _) (.Call (.Attribute v m apos) [] [] mpos :: []) [] _ => glB sc x && decide (x = ("list" : Str)) && decide (m = ("values" : Str)) && okE T N o sc v && !isCall0 v && (apos.endLine == mpos.line)
    | _ => false)
  | .call f sh es ks, sc, e => (match e with
    | .Call (.Name x _) xs kws _ => glB sc x && decide (T.fns[f]? = some (some x)) && noStar es && oks T N es sc xs && okK T N ks sc kws && (!xs.isEmpty || kws.isEmpty) && (match T.shs[sh]? with
      | some (g, n, kn, _) => Nat.beq g f && Nat.beq (lenCs es) n && decide (kws.map (·.arg) = kn.map some)
      | none => false)
    | _ => false)
  | .blt f es, sc, e => (match e with
    | .Call (.Name x _) (y :: xs) [] _ => glB sc x && decide (nameB f = x) && noStar es && oks T N es sc (y :: xs)
    | _ => false)
  | .met o m es, sc, e => (match e with
    | .Call (.Attribute v x apos) (y :: xs) [] pos => decide (nameM m = x) && noStar es && okE T N o sc v && !isCall0 v && oks T N es sc (y :: xs) && (apos.endLine == pos.line) && decide ((y :: xs).length < 29)
    | _ => false)
  | .sub o i, sc, e => (match e with
    | .Subscript v x _ => !isSlE x && okE T N o sc v && okE T N i sc x
    | _ => false)
  | .slc o lo hi, sc, e => (match e with
    | .Subscript v (.Slice l u none _) _ => okE T N o sc v && (match l with
      | some x => okE T N lo sc x
      | none => isNo lo) && (match u with
      | some x => okE T N hi sc x
      | none => isNo hi)
    | _ => false)
  | .no, _, _ => false
  | .bad, _, _ => true
  | .srt c, sc, e => (match e with
    | .Call (.Name x _) (.Call (.Name y _) (z :: []) [] _ :: []) [] _ => glB sc x && decide (x = ("sorted" : Str)) && glB sc y && decide (y = ("set" : Str)) && !isStarE z && okE T N c sc z
    | _ => false)
  | .rep es j, sc, e => (match e with
    | .BinOp (.List xs _) .Mult (.Constant (.int i) _ _) _ => decide (i = (j : Int)) && oks T N es sc xs
    | _ => false)
  | .att o f, sc, e => (match e with
    | .Attribute v x _ => decide (f = x) && okE T N o sc v && !isCall0 v
    | _ => false)
  | .new c sh es ks, sc, e => (match e with
    | .Call (.Name x _) xs kws _ => glB sc x && decide (T.cs[c]? = some (some x)) && noStar es && oks T N es sc xs && okK T N ks sc kws && (!xs.isEmpty || kws.isEmpty) && (match T.shs[sh]? with
      | some (g, n, kn, _) => decide (T.ini[c]? = some (some g)) && Nat.beq (lenCs es + 1) n && decide (kws.map (·.arg) = kn.map some)
      | none => false)
    | _ => false)
  | .olen o, sc, e => (match e with
    | .Call (.Name x _) (y :: []) [] _ => glB sc x && decide (x = ("len" : Str)) && !isStarE y && okE T N o sc y
    | _ => false)
  | .oin a o, sc, e => (match e with
    | .Compare l [.In] [r] _ => !isSetE r && okE T N a sc l && okE T N o sc r
    | _ => false)
  | .isO a c, sc, e => (match e with
    | .Call (.Name x _) (y :: .Name z _ :: []) [] _ => glB sc x && decide (x = ("isinstance" : Str)) && !isStarE y && okE T N a sc y && glB sc z && decide (T.cs[c]? = some (some z))
    | _ => false)
  | .lc2 _ vs vs1 tg it ifs tg1 it1 ifs1 c, sc, e => (match e with
    | .ListComp elt (⟨te, iter, fs, 0⟩ :: ⟨te1, iter1, fs1, 0⟩ :: []) scope _ => blkC N sc scope (vs.map fun i => (N.getD i "", i)) && okI T N it sc te iter && tgOk N (fun x => scope.names.lookup x == some .cell) (relS scope sc) tg te && tgIn vs tg && okF T N ifs (relS scope sc) fs &&
        okI T N it1 (relS scope sc) te1 iter1 && tgOk N (fun x => scope.names.lookup x == some .cell) (relS scope sc) tg1 te1 && tgIn vs1 tg1 && vs1.all vs.contains && okF T N ifs1 (relS scope sc) fs1 && okE T N c (relS scope sc) elt && !isSetE iter && !isSetE iter1
    | _ => false)
  | .lc _ vs tg it ifs c, sc, e => (match e with
    | .ListComp elt (⟨te, iter, fs, 0⟩ :: []) scope _ => blkC N sc scope (vs.map fun i => (N.getD i "", i)) && okI T N it sc te iter && tgOk N (fun x => scope.names.lookup x == some .cell) (relS scope sc) tg te && tgIn vs tg && okF T N ifs (relS scope sc) fs && okE T N c (relS scope sc) elt && !isSetE iter
    | _ => false)
def oks (T : Tab) (N : List Str) : Cs → Scope → List Expr → Bool
  | .nil, _, es => (match es with
    | [] => true
    | _ => false)
  | .cons c r, sc, es => (match es with
    | e :: xs => !isStarE e && okE T N c sc e && oks T N r sc xs
    | _ => false)
  | .star c r, sc, es => (match es with
    | .Starred e _ :: xs => okE T N c sc e && oks T N r sc xs
    | _ => false)
def okK (T : Tab) (N : List Str) : Cs → Scope → List Keyword → Bool
  | .nil, _, es => (match es with
    | [] => true
    | _ => false)
  | .cons c r, sc, es => (match es with
    | ⟨some _, e, _⟩ :: xs => okE T N c sc e && okK T N r sc xs
    | _ => false)
  | .star _ _, _, _ => false
def okI (T : Tab) (N : List Str) : It → Scope → Expr → Expr → Bool
  | .of c, sc, _, e => okE T N c sc e
  | .rng cs, sc, _, e => (match e with
    | .Call (.Name x _) (y :: xs) [] _ => glB sc x && decide (x = ("range" : Str)) && noStar cs && oks T N cs sc (y :: xs) && decide ((y :: xs).length ≤ 2)
    | _ => false)
  | .enum c, sc, t, e => (match e with
    | .Call (.Name x _) (y :: []) [] _ => glB sc x && decide (x = ("enumerate" : Str)) && isTupE t && !isStarE y && okE T N c sc y
    | _ => false)
  | .zip a b, sc, t, e => (match e with
    | .Call (.Name x _) (y :: z :: []) [] _ => glB sc x && decide (x = ("zip" : Str)) && isTupE t && !isStarE y && !isStarE z && okE T N a sc y && okE T N b sc z
    | _ => false)
def okF (T : Tab) (N : List Str) : Cs → Scope → List Expr → Bool
  | .nil, _, es => (match es with
    | [] => true
    | _ => false)
  | .cons c .nil, sc, es => (match es with
    | e :: [] => okE T N c sc e
    | _ => false)
  | _, _, _ => false
end
example (T : Tab) (N : List Str) (sc : Scope) (p : Pos) : okE T N (.cint 3) sc (.Constant (.int 3) 0 p) = true := rfl
end EV

set_option Elab.async false
set_option linter.all false
set_option maxRecDepth 100000
set_option maxHeartbeats 4000000
/-! EV 7: expressions. -/
namespace EV
open PySem PySem.Spec PyProof.Rows L2

/-- a part is done further on, the rest is wanted from where it began -/
theorem bindS {α β γ δ : Type} {Y : Sy} {rel : Rg → Hp → α → β → Prop} {rel2 : Rg → Hp → γ → δ → Prop} {r r1 : Rg} {H H1 : Hp} {W : XK} {res : R α} {f : α → Hs → R γ} {Q : δ → Hp → Prop} (p : Post Y rel2 r H W (res.bind f) Q) (e1 : Ext r H r1 H1) :
    Post Y rel r1 H1 W res (fun b H2 => ∃ r2 a h2, res = .ok a h2 ∧ Ext r1 H1 r2 H2 ∧ RelH Y r2 H2 h2 ∧ rel r2 H2 a b ∧ Post Y rel2 r H W (f a h2) Q) := by
  cases res with
  | ok a h' => exact fun r' H' b e R q => ⟨r', a, h', rfl, e, R, q, p⟩
  | exc c x h' => exact Post.shift (show Post Y rel2 r H W (.exc c x h') Q from p) e1
  | bad => exact p.elim
/-- the built-in types that values here have -/
def tyVals : List String := ["NoneType", "bool", "int", "str", "tuple", "list"]
/-- what the text says of an own class at C -/
structure ClK (Y : Sy) (cs : List Cl) (cl : Cl) (C : Addr) : Prop where
  cls : Cls Y.K C
  fld : ∀ f ∈ cl.flds, NoAttr Y.K C f
  ha : PySem.W.findIn Y.K (.ref C) "__class__" = some (some (.builtin "object.__class__"))
  hm : PySem.W.mroIn Y.K C (.type "object") = some true
  kit : ∀ dl ∈ cs, dl.exc = false → ∀ D, Y.mg dl.nm = some (.ref D) → PySem.W.kitOne Y.K (.ref C) (.ref D) = some (cl.sup.contains dl.nm)
  kitT : ∀ t ∈ tyVals, PySem.W.kitOne Y.K (.type t) (.ref C) = some false
/-- .. of an own class of exceptions -/
structure XcK (Y : Sy) (cs : List Cl) (cl : Cl) (C : Addr) : Prop where
  exc : cl.init = none → PySem.W.excIn Y.K C HandSPX.veTail "ValueError.__new__" = true
  kp : PySem.W.keepIn Y.K (.ref C) = true
  sub : PySem.W.subIn Y.K (.ref C) (.type "BaseException") = some true
  typ : PySem.W.typeIn Y.K (.ref C) = some (.type "type")
  exm : ∀ dl ∈ cs, dl.exc = true → ∀ D, Y.mg dl.nm = some (.ref D) → PySem.W.exmOne Y.K (.ref C) (.ref D) = some (cl.sup.contains dl.nm)
/-- a class where code runs: its defs, too -/
structure ClOk (T : Tab) (E : Ev) (k : Nat) (X : Cx) (cl : Cl) (C : Addr) : Prop where
  ck : ClK (sy X) E.cs cl C
  prp : ∀ f g, cl.props.lookup f = some g → E.ab.contains g = false → ∃ p a fd ps, PropOf X.K C f p a ∧ FnOk X.prog X.w X.K X.mg X.base (CX X.prog X.w) (2 * k) a fd ps (spF (sy X) E g) ∧ Binds X.K fd ps []
  mth : ∀ m g, cl.meths.lookup m = some g → E.ab.contains g = false → ∃ a fd ps, Meth X.K C m a ∧ FnOk X.prog X.w X.K X.mg X.base (CX X.prog X.w) (2 * k) a fd ps (spF (sy X) E g) ∧ Binds X.K fd ps []
  ini : ∀ f, cl.init = some f → E.ab.contains f = false → ∃ a fd ps, Mk X.K C a ∧ FnOk X.prog X.w X.K X.mg X.base (CX X.prog X.w) (2 * k) a fd ps (spF (sy X) E f) ∧
    ∀ (sh n : Nat) (kn : List Str) (sl : List Sl), T.shs[sh]? = some (f, n, kn, sl) → E.shs[sh]? = some sl ∧ BindOk (sy X) fd ps n kn sl
/-- what is known where code runs -/
structure Ok (T : Tab) (E : Ev) (k : Nat) (X : Cx) (W : WX) : Prop where
  calm : X.calm = true
  tk : Takes X W
  room : Room (2 * k + 1) X.A
  nd : X.N.Nodup
  blt : ∀ f : B, X.mg (nameB f) = none
  typ : ∀ x ∈ tyNames, X.mg x = none
  rng : X.mg "range" = none
  enu : X.mg "enumerate" = none
  zip : X.mg "zip" = none
  glo : ∀ (i : Nat) (x : Str) (d : D), T.gs[i]? = some (some x) → E.G[i]? = some d → ∃ u v, X.mg x = some u ∧ RelV v u ∧ ∀ r H, RD (sy X) r H d v
  fns : ∀ f x, T.fns[f]? = some (some x) → ∃ a fd ps, X.mg x = some (.ref a) ∧ PySem.W.keepIn X.K (.ref a) = true ∧ FnOk X.prog X.w X.K X.mg X.base (CX X.prog X.w) (2 * k) a fd ps (spF (sy X) E f) ∧
    ∀ (sh n : Nat) (kn : List Str) (sl : List Sl), T.shs[sh]? = some (f, n, kn, sl) → E.shs[sh]? = some sl ∧ BindOk (sy X) fd ps n kn sl
  set : X.mg "set" = none
  obj : PySem.W.specialIn X.K (.builtin "object.__class__") "__get__" = some (some (.builtin "getset_descriptor.__get__")) ∧ PySem.W.takesIn X.K (.builtin "object.__class__") = some true
  cnm : ∀ (c : Nat) (x : Str), T.cs[c]? = some (some x) → ∃ cl C, E.cs[c]? = some cl ∧ cl.nm = x ∧ X.mg x = some (.ref C) ∧ (∀ f, T.ini[c]? = some (some f) → cl.exc = false ∧ cl.init = some f ∧ E.ab.contains f = false)
  cls : ∀ cl ∈ E.cs, cl.exc = false → ∀ C, X.mg cl.nm = some (.ref C) → ClOk T E k X cl C
  xcs : ∀ cl ∈ E.cs, cl.exc = true → ∀ C, X.mg cl.nm = some (.ref C) → XcK (sy X) E.cs cl C
  crf : ∀ cl ∈ E.cs, ∀ v, X.mg cl.nm = some v → ∃ C, v = .ref C
theorem Ok.rm {T : Tab} {E : Ev} {k : Nat} {X : Cx} {W : WX} (o : Ok T E k X W) : Room (2 * k) X.A := o.room.mono (Nat.le_succ _)
theorem Ok.blk {T : Tab} {E : Ev} {k : Nat} {X : Cx} {W : WX} (o : Ok T E k X W) (s : Shared) (H : Hp) (scope : Scope) (env : Env) (fp : List Addr) : Ok T E k (X.blk s H scope env fp) (fun _ _ _ _ => False) :=
  ⟨o.calm, fun u s' ⟨_, _, _, _, _, _, _, _, _, _, _, _, _, _, _, _, w⟩ => w.elim, o.room, o.nd, o.blt, o.typ, o.rng, o.enu, o.zip, o.glo, o.fns, o.set, o.obj, o.cnm, fun cl hc he C hC => let q := o.cls cl hc he C hC; ⟨q.ck, q.prp, q.mth, q.ini⟩, o.xcs, o.crf⟩
theorem Ok.units {T : Tab} {E : Ev} {k : Nat} {X : Cx} {W : WX} (o : Ok T E k X W) : X.A.units + 65 < cLine := by
  have := o.room.un
  omega

section
variable {X : Cx} {W : WX} {E : Ev} {e : Expr}
/-- a test by its value's truth -/
theorem pt_of {c : C} (h : PE X e (tE (sy X) W E c)) (ht : ∀ L hh, ex E c true L hh = tst true (ex E c false L hh)) (he : ∀ whole, isTrue e X.env whole = (do let v ← whole; standAt e.pos; holding [v] (PySem.truthy v))) : PT X e (tT (sy X) W E c) := by
  refine PT.imp (pt_truth h he) fun σ H Q ⟨r, L, hh, rl, rh, p⟩ => ?_
  rw [ht] at p
  refine ⟨r, L, hh, rl, rh, (bindP (rel := RD (sy X)) p).imp fun x H1 ⟨r1, d1, h1, _, e1, rh1, rx, p1⟩ => ?_⟩
  dsimp only at p1
  split at p1
  · rename_i b q
    exact ⟨b, tru_V rh1 rx q, p1 r1 H1 b e1 rh1 rfl⟩
  · exact p1.elim
theorem post_tup {Y : Sy} {r : Rg} {H H1 : Hp} {r1 : Rg} {h1 : Hs} {W : XK} {Q : VK} {ds : List D} {vs : List V} (p : Post Y (RD Y) r H W (newT ds h1) Q) (e1 : Ext r H r1 H1) (R : RelH Y r1 H1 h1) (hv : RDs Y r1 H1 ds vs) : vs.length ≤ sizeLine ∧ ∀ a, H1 a = none → Q (.ref a) (upd H1 a (.tup vs)) :=
  (((p.shift e1).pok noX_newT)).newT R hv
theorem post_lst {Y : Sy} {r : Rg} {H H1 : Hp} {r1 : Rg} {h1 : Hs} {W : XK} {Q : VK} {m : Bool} {ds : List D} {vs : List V} (p : Post Y (RD Y) r H W (newL m ds h1) Q) (e1 : Ext r H r1 H1) (R : RelH Y r1 H1 h1) (hv : RDs Y r1 H1 ds vs) : vs.length ≤ sizeLine ∧ ∀ a, H1 a = none → Q (.ref a) (upd H1 a (.lst vs)) :=
  (((p.shift e1).pok noX_newL)).newL R hv
/-- two operands -/
theorem two_of {a b : C} {f : D → D → Hs → R D} {rr : R2} (nx : ∀ x y h, NoX (f x y h))
    (hr : ∀ {r : Rg} {H : Hp} {h : Hs} {x y : V} {d1 d2 : D} {Q : VK}, RelH (sy X) r H h → RD (sy X) r H d1 x → RD (sy X) r H d2 y → Pok (sy X) (RD (sy X)) r H (f d1 d2 h) Q → rr x y H Q)
    {σ : L2.St} {H : Hp} {Q : VK} (q : ∃ r L h, RelL (sy X) r H σ L ∧ RelH (sy X) r H h ∧ Post (sy X) (RD (sy X)) r H (fun cls d H' => W cls d σ H') ((ex E a false L h).bind fun x h => (ex E b false L h).bind fun y h => f x y h) Q) :
    tOp rr (tE (sy X) W E a) (tE (sy X) W E b) σ H Q := by
  obtain ⟨r, L, hh, rl, rh, p⟩ := q
  refine ⟨r, L, hh, rl, rh, (bindP (rel := RD (sy X)) p).imp fun x H1 ⟨r1, d1, h1, _, e1, rh1, rx, p1⟩ => ⟨r1, L, h1, rl.mono e1, rh1, (bindP (rel := RD (sy X)) (p1.shift e1)).imp fun y H2 ⟨r2, d2, h2, _, e2, rh2, ry, p2⟩ => ?_⟩⟩
  exact hr rh2 (rx.mono e2) ry ((p2.shift e2).pok (nx _ _ _))
end
theorem plainIx_of {b : Expr} (h : isSlE b = false) : PlainIx b := fun o i => by
  cases b <;> first | rfl | cases h
theorem marks_of {op : CmpOp} {b : Expr} (h : isSetE b = false) : behindInMarks op b = false := by
  cases b <;> first | rfl | cases h
theorem base_of {o : Expr} {x : Str} {env : Env} {w : Sem Value} (h : isCall0 o = false) : attributeBase o x env w = w := by
  unfold attributeBase
  split
  · cases h
  · rfl
theorem stars_of : ∀ {cs : Cs} {T : Tab} {N : List Str} {sc : Scope} {es : List Expr}, noStar cs = true → oks T N cs sc es = true → ∀ (pos : Pos) (env : Env), (backTo pos (starEach es env)).any (·.1) = false
  | .nil, T, N, sc, es, _, h, pos, env => by
    cases es with
    | nil => rfl
    | cons e es => simp only [oks] at h; cases h
  | .cons c r, T, N, sc, es, n, h, pos, env => by
    cases es with
    | nil => simp only [oks] at h; cases h
    | cons e es =>
      simp only [oks, Bool.and_eq_true, Bool.not_eq_true'] at h
      rw [starEach_no h.1.1]
      show (false || (backTo pos (starEach es env)).any (·.1)) = false
      rw [stars_of (cs := r) (by simpa only [noStar] using n) h.2 pos env]
      rfl
  | .star c r, _, _, _, _, n, _, _, _ => by simp only [noStar] at n; cases n
theorem exs_len {E : Ev} : ∀ {cs : Cs} {L : Lc} {h h' : Hs} {xs : List D}, noStar cs = true → exs E cs L h = .ok xs h' → xs.length = lenCs cs
  | .nil, L, h, h', xs, _, e => by simp only [exs, R.ok.injEq] at e; rw [← e.1]; rfl
  | .cons c r, L, h, h', xs, n, e => by
    simp only [exs] at e
    cases q : ex E c false L h with
    | ok d h1 =>
      rw [q] at e
      simp only [R.bind] at e
      cases q2 : exs E r L h1 with
      | ok ys h2 =>
        rw [q2] at e
        simp only [R.bind, R.ok.injEq] at e
        rw [← e.1]
        simp only [List.length_cons, lenCs]
        rw [exs_len (cs := r) (by simpa only [noStar] using n) q2]
      | exc c x h => rw [q2] at e; cases e
      | bad => rw [q2] at e; cases e
    | exc c x h => rw [q] at e; cases e
    | bad => rw [q] at e; cases e
  | .star c r, _, _, _, _, n, _ => by simp only [noStar] at n; cases n
theorem oks_len {T : Tab} {N : List Str} {sc : Scope} : ∀ {cs : Cs} {es : List Expr}, oks T N cs sc es = true → es.length = lenCs cs
  | .nil, es, h => by
    cases es with
    | nil => rfl
    | cons e es => simp only [oks] at h; cases h
  | .cons c r, es, h => by
    cases es with
    | nil => simp only [oks] at h; cases h
    | cons e es =>
      simp only [oks, Bool.and_eq_true] at h
      simp only [List.length_cons, lenCs, oks_len h.2]
  | .star c r, es, h => by
    cases es with
    | nil => simp only [oks] at h; cases h
    | cons e es =>
      cases e <;> simp only [oks, Bool.and_eq_true] at h <;> first | cases h; done | skip
      simp only [List.length_cons, lenCs, oks_len h.2]
end EV

set_option Elab.async false
set_option linter.all false
set_option maxRecDepth 100000
set_option maxHeartbeats 4000000
/-! EV 8: targets, comprehensions. -/
namespace EV
open PySem PySem.Spec PyProof.Rows L2

/-! ### targets -/
def gNames : List Nat → TGs
  | [] => gNil
  | i :: is => gCons (gName i) (gNames is)
def gTg (K : PySem.W.Frag) : Tg → TG
  | .name i => gName i
  | .tup ts => gTup K ts.length (gNames ts)
section
variable {X : Cx} {fb : Str → Bool}
theorem pgs_of (hN : X.N.Nodup) (hf : ∀ x, fb x = true → X.fn x = true) : ∀ {ts : List Nat} {es : List Expr}, tgOk.tgsOk X.N fb X.env.scope ts es = true → PGs X es (gNames ts) ∧ (assignEach es X.env).length = ts.length ∧ (assignEach es X.env).findIdx? (·.1) = none
  | [], es, h => by
    cases es with
    | nil => exact ⟨pgs_nil, rfl, rfl⟩
    | cons e es => simp only [tgOk.tgsOk] at h; cases h
  | i :: is, es, h => by
    cases es with
    | nil => simp only [tgOk.tgsOk] at h; cases h
    | cons e es =>
      cases e with
      | Name x p =>
        simp only [tgOk.tgsOk, Bool.and_eq_true, decide_eq_true_eq] at h
        obtain ⟨⟨h1, h2⟩, h3⟩ := h
        obtain ⟨k1, k2⟩ := locB_ok h2
        obtain ⟨p1, p2, p3⟩ := pgs_of hN hf h3
        have k3 : X.fn x = true ∨ X.env.scope.names.lookup x = some .local := k2.elim (fun z => .inl (hf x z)) .inr
        refine ⟨pgs_cons (pg_name hN h1 k1 k3) p1 rfl, ?_, ?_⟩
        · show (assignEach es X.env).length + 1 = is.length + 1
          rw [p2]
        · show List.findIdx? (·.1) ((false, _) :: assignEach es X.env) = none
          rw [List.findIdx?_cons]
          simp only [Bool.false_eq_true, if_false, p3]
          rfl
      | _ => simp only [tgOk.tgsOk] at h; cases h
theorem pg_of (hc : X.calm = true) (hN : X.N.Nodup) (hf : ∀ x, fb x = true → X.fn x = true) {tg : Tg} {e : Expr} (h : tgOk X.N fb X.env.scope tg e = true) : PG X e (gTg X.K tg) := by
  cases tg with
  | name i =>
    cases e with
    | Name x p =>
      simp only [tgOk, Bool.and_eq_true, decide_eq_true_eq] at h
      obtain ⟨h1, h2⟩ := h
      obtain ⟨k1, k2⟩ := locB_ok h2
      exact pg_name hN h1 k1 (k2.elim (fun z => .inl (hf x z)) .inr)
    | _ => simp only [tgOk] at h; cases h
  | tup ts =>
    cases e with
    | Tuple es n p =>
      simp only [tgOk] at h
      obtain ⟨p1, p2, p3⟩ := pgs_of hN hf h
      exact pg_tup hc p1 p2 p3
    | _ => simp only [tgOk] at h; cases h
end
def setsV (ts : List Nat) (vs : List V) (σ : L2.St) : L2.St := (ts.zip vs).foldl (fun σ p => σ.set p.1 (some p.2)) σ
theorem gNames_ok {H : Hp} {Q : L2.St → Hp → Prop} : ∀ {ts : List Nat} {vs : List V} {σ : L2.St}, vs.length = ts.length → Q (setsV ts vs σ) H → gNames ts vs σ H Q
  | [], vs, σ, h, q => by
    have e : vs = [] := List.eq_nil_of_length_eq_zero h
    subst e
    exact ⟨rfl, q⟩
  | i :: is, vs, σ, h, q => by
    cases vs with
    | nil => simp at h
    | cons v vs =>
      refine ⟨v, vs, rfl, ?_⟩
      exact gNames_ok (ts := is) (by simpa using h) q
theorem setsV_rel {Y : Sy} {r : Rg} {H : Hp} : ∀ {ts : List Nat} {ds : List D} {vs : List V} {σ : L2.St} {L : Lc}, RDs Y r H ds vs → RelL Y r H σ L → RelL Y r H (setsV ts vs σ) ((ts.zip ds).foldl (fun L p => L.set p.1 (some p.2)) L)
  | [], ds, vs, σ, L, h, l => l
  | i :: is, ds, vs, σ, L, h, l => by
    cases ds with
    | nil => rw [h.nil_inv]; exact l
    | cons d ds =>
      obtain ⟨v, t, rfl, h1, h2⟩ := h.cons_inv
      exact setsV_rel (ts := is) h2 (l.set i h1)
/-- the slots that a target does not name stay -/
def SameBut (vs : List Nat) (σ σ' : L2.St) : Prop := σ'.length = σ.length ∧ ∀ i, i ∉ vs → σ'[i]? = σ[i]?
theorem SameBut.refl {vs : List Nat} {σ : L2.St} : SameBut vs σ σ := ⟨rfl, fun _ _ => rfl⟩
theorem SameBut.set {vs : List Nat} {σ σ' : L2.St} {i : Nat} {x : Option V} (s : SameBut vs σ σ') (hi : i ∈ vs) : SameBut vs σ (σ'.set i x) :=
  ⟨by rw [List.length_set]; exact s.1, fun j hj => by rw [List.getElem?_set_ne (show i ≠ j from fun e => hj (by rw [← e]; exact hi))]; exact s.2 j hj⟩
theorem setsV_same {ws : List Nat} {σ₀ : L2.St} : ∀ {ts : List Nat} {vs : List V} {σ : L2.St}, (∀ i ∈ ts, i ∈ ws) → SameBut ws σ₀ σ → SameBut ws σ₀ (setsV ts vs σ)
  | [], _, _, _, s => s
  | i :: is, [], _, _, s => s
  | i :: is, v :: vs, σ, h, s => setsV_same (ts := is) (fun j hj => h j (List.mem_cons_of_mem _ hj)) (s.set (h i (List.mem_cons_self ..)))
theorem setTg_ok {Y : Sy} {r : Rg} {H : Hp} {tg : Tg} {d : D} {x : V} {L L' : Lc} {σ : L2.St} {Q : L2.St → Hp → Prop} (e : setTg tg d L = some L') (l : RelL Y r H σ L) (hx : RD Y r H d x)
    (q : ∀ σ2, RelL Y r H σ2 L' → (∀ ws, tgIn ws tg = true → SameBut ws σ σ2) → Q σ2 H) : gTg Y.K tg x σ H Q := by
  cases tg with
  | name i =>
    simp only [setTg, Option.some.injEq] at e
    subst e
    refine q _ (l.set i hx) fun ws hw => SameBut.refl.set ?_
    simpa only [tgIn, List.contains_iff_mem] using hw
  | tup ts =>
    cases d with
    | tup ds =>
      simp only [setTg] at e
      split at e
      · rename_i hl
        cases e
        obtain ⟨a, vs, rfl, ht, hr⟩ := hx.tup_inv
        have hl : ds.length = ts.length := Nat.eq_of_beq_eq_true hl
        have hl2 : vs.length = ts.length := by rw [hr.length]; exact hl
        refine ⟨a, vs, rfl, ht.sq, hl2, gNames_ok hl2 (q _ (setsV_rel hr l) fun ws hw => setsV_same (fun i hi => ?_) .refl)⟩
        simp only [tgIn, List.all_eq_true] at hw
        simpa only [List.contains_iff_mem] using hw i hi
      · cases e
    | _ => simp only [setTg] at e; cases e
/-! ### slots forgotten -/
theorem wipe_get : ∀ (vs : List Nat) (σ : L2.St) (j : Nat), (wipe σ vs)[j]? = if j ∈ vs then (σ[j]?).map (fun _ => none) else σ[j]?
  | [], σ, j => by simp [wipe]
  | v :: vs, σ, j => by
    unfold wipe
    by_cases hv : v = j
    · subst hv
      rw [if_pos (List.mem_cons_self ..)]
      by_cases hl : v < σ.length
      · rw [List.getElem?_set_self (by rw [wipe_length]; exact hl), List.getElem?_eq_getElem hl]
        rfl
      · rw [List.getElem?_eq_none (by rw [List.length_set, wipe_length]; omega), List.getElem?_eq_none (by omega)] <;> rfl
    · rw [List.getElem?_set_ne hv, wipe_get vs σ j]
      by_cases hj : j ∈ vs
      · rw [if_pos hj, if_pos (List.mem_cons_of_mem _ hj)]
      · rw [if_neg hj, if_neg (by simp only [List.mem_cons, not_or]; exact ⟨fun e => hv e.symm, hj⟩)]
theorem wipe_same {vs : List Nat} {σ σ' : L2.St} (s : SameBut vs (wipe σ vs) σ') : wipe σ' vs = wipe σ vs := by
  refine List.ext_getElem? fun j => ?_
  rw [wipe_get, wipe_get]
  have hlen : σ'.length = σ.length := by rw [s.1, wipe_length]
  by_cases hj : j ∈ vs
  · rw [if_pos hj, if_pos hj]
    by_cases hl : j < σ.length
    · rw [List.getElem?_eq_getElem hl, List.getElem?_eq_getElem (by rw [hlen]; exact hl)]
      rfl
    · rw [List.getElem?_eq_none (by omega), List.getElem?_eq_none (by omega)]
  · rw [if_neg hj, if_neg hj, s.2 j hj, wipe_get, if_neg hj]
theorem wipe_rel {Y : Sy} {r : Rg} {H : Hp} {σ : L2.St} {L : Lc} (l : RelL Y r H σ L) : ∀ vs : List Nat, RelL Y r H (wipe σ vs) (wipeL vs L)
  | [] => l
  | v :: vs => by
    have ih := wipe_rel l vs
    unfold wipe wipeL
    refine ⟨by rw [List.length_set, List.length_set]; exact ih.len, fun i d h => ?_⟩
    by_cases hv : v = i
    · subst hv
      obtain ⟨hl, _⟩ := List.getElem?_eq_some_iff.mp h
      rw [List.length_set] at hl
      rw [List.getElem?_set_self hl] at h
      cases h
    · rw [List.getElem?_set_ne hv] at h ⊢
      exact ih.get i d h

end EV

set_option Elab.async false
set_option linter.all false
set_option maxRecDepth 100000
set_option maxHeartbeats 4000000
/-! EV 9: comprehensions, iterators. -/
namespace EV
open PySem PySem.Spec PyProof.Rows L2

theorem lc_nil {s : Src} {step : D → Hs → R (Option D)} {h hE : Hs} {ys : List D} (e : lcLoop s step [] h = .ok ys hE) : chk s h = true ∧ ys = [] ∧ h = hE := by
  simp only [lcLoop] at e
  split at e
  · rename_i hc
    simp only [R.ok.injEq] at e
    exact ⟨hc, e.1.symm, e.2⟩
  · cases e
theorem lc_cons {s : Src} {step : D → Hs → R (Option D)} {d : D} {rest : List D} {h hE : Hs} {ys : List D} (e : lcLoop s step (d :: rest) h = .ok ys hE) :
    chk s h = true ∧ ∃ o h2 ys2, step d h = .ok o h2 ∧ lcLoop s step rest h2 = .ok ys2 hE ∧ ys = o.toList ++ ys2 := by
  simp only [lcLoop] at e
  split at e
  · rename_i hc
    refine ⟨hc, ?_⟩
    cases q : step d h with
    | ok o h2 =>
      rw [q] at e
      simp only [strip, R.bind] at e
      cases q2 : lcLoop s step rest h2 with
      | ok ys2 h3 =>
        rw [q2] at e
        simp only [R.bind, R.ok.injEq] at e
        exact ⟨o, h2, ys2, rfl, by rw [q2, e.2], e.1.symm⟩
      | exc c x h => rw [q2] at e; cases e
      | bad => rw [q2] at e; cases e
    | exc c x h => rw [q] at e; cases e
    | bad => rw [q] at e; cases e
  · cases e
theorem lc_noX {s : Src} {step : D → Hs → R (Option D)} : ∀ (xs : List D) (h : Hs), NoX (lcLoop s step xs h)
  | [], h => by
    simp only [lcLoop]
    exact noX_ite noX_ok noX_bad
  | d :: rest, h => by
    simp only [lcLoop]
    refine noX_ite ?_ noX_bad
    cases q : step d h with
    | ok o h2 =>
      simp only [strip, R.bind]
      intro c x g e
      have z := lc_noX (s := s) (step := step) rest h2
      cases q2 : lcLoop s step rest h2 with
      | ok ys2 h3 => rw [q2] at e; cases e
      | exc c x h => exact z _ _ _ q2
      | bad => rw [q2] at e; cases e
    | exc c x h => exact fun _ _ _ e => nomatch e
    | bad => exact fun _ _ _ e => nomatch e
theorem bind_ok {α β : Type} {r : R α} {f : α → Hs → R β} {b : β} {h : Hs} (e : r.bind f = .ok b h) : ∃ a h1, r = .ok a h1 ∧ f a h1 = .ok b h := by
  cases r with
  | ok a h1 => exact ⟨a, h1, rfl, e⟩
  | exc c x h => cases e
  | bad => cases e
section
variable {Y : Sy} {r r1 r2 : Rg} {H H1 : Hp} {h : Hs} {a : Addr}
/-- others write what is theirs -/
theorem goes_write {u : HO} (m : a ∈ r.f) : Goes r H r (upd H a u) :=
  ⟨fun _ _ q => q, fun b o q n => ⟨by rw [upd_ne fun e => n (.inl (by rw [e]; exact m))]; exact q, n⟩⟩
theorem RelH.writeF {u : HO} (R : RelH Y r H h) (m : a ∈ r.f) (n1 : ∀ xs, u ≠ .tup xs) (n2 : ∀ xs, u ≠ .xd xs) : RelH Y r (upd H a u) h := by
  refine ⟨R.len, R.nd, fun b mb => ⟨(R.frm b mb).1, ?_⟩, fun n o b h1 h2 => (R.obj n o b h1 h2).go (goes_write m) (upd_ne fun e => (R.frm a m).1 (by rw [← e]; exact List.mem_of_getElem? h2))⟩
  by_cases e : b = a
  · rw [e]; exact ⟨u, upd_same, n1, n2⟩
  · obtain ⟨x, q, z⟩ := (R.frm b mb).2
    exact ⟨x, by rw [upd_ne e]; exact q, z⟩
/-- a thing that is not ours -/
def Rg.addF (r : Rg) (a : Addr) : Rg := ⟨a :: r.f, r.o⟩
theorem Ext.growF {u : HO} (na : H a = none) : Ext r H (r.addF a) (upd H a u) :=
  ⟨⟨[a], rfl, fun b m => by rw [List.mem_singleton.mp m]; exact na⟩, ⟨[], (List.append_nil _).symm⟩, fun b o e _ => by rw [upd_ne (ne_of_none e na)]; exact e, fun b m n => absurd m n, st_upd⟩
theorem RelH.growF {u : HO} (R : RelH Y r H h) (na : H a = none) (n1 : ∀ xs, u ≠ .tup xs) (n2 : ∀ xs, u ≠ .xd xs) : RelH Y (r.addF a) (upd H a u) h := by
  have ex := Ext.growF (r := r) (u := u) na
  refine ⟨R.len, R.nd, fun b mb => ?_, fun n o b h1 h2 => (R.obj n o b h1 h2).go ex.goes (upd_ne fun e => R.new na (.inr (by rw [← e]; exact List.mem_of_getElem? h2)))⟩
  rcases List.mem_cons.mp mb with rfl | mb
  · exact ⟨fun m => R.new na (.inr m), u, upd_same, n1, n2⟩
  · exact ⟨(R.frm b mb).1, (R.frm b mb).2.grow na⟩
/-- it is ours now; or nobody's -/
theorem goes_mine (R : RelH Y r2 H h) (m : a ∈ r2.f) (hf : ∀ b, b ∈ r1.f → b ∈ r2.f) (m2 : Bool) : Goes r2 H ⟨r1.f, r2.o ++ (if m2 then [a] else [])⟩ H := by
  refine ⟨fun n b q => ?_, fun b o q n => ⟨q, fun z => ?_⟩⟩
  · show (r2.o ++ _)[n]? = some b
    rw [List.getElem?_append_left (List.getElem?_eq_some_iff.mp q).1]
    exact q
  · rcases z with z | z
    · exact n (.inl (hf b z))
    · rcases List.mem_append.mp z with z | z
      · exact n (.inr z)
      · cases m2 with
        | true => exact n (.inl (by rw [List.mem_singleton.mp z]; exact m))
        | false => simp at z
end
section
variable {T : Tab} {E : Ev} {k : Nat} {X : Cx} {W : WX}
abbrev noW : WX := fun _ _ _ _ => False
/-- a list is made -/
theorem made_post {r r1 rc : Rg} {H H1 Hc : Hp} {hE : Hs} {W' : XK} {Q : VK} {m : Bool} {acc : List D} {accV : List V} {D₀ : Addr} {h1 : Hs} (R1 : RelH (sy X) r1 H1 h1) (nD : H1 D₀ = none) (e1 : Ext r H r1 H1) (e' : Ext r1 H1 rc Hc) (mD : D₀ ∈ rc.f) (Rc : RelH (sy X) rc Hc hE) (hD : Hc D₀ = some (.lst accV)) (hacc : RDs (sy X) rc Hc acc accV)
    (p : Post (sy X) (RD (sy X)) r H W' (newL m acc hE) Q) : Q (.ref D₀) Hc := by
  have hf : ∀ b, b ∈ r1.f → b ∈ rc.f := fun b mb => by
    obtain ⟨t, et, _⟩ := e'.lf
    rw [et]; exact List.mem_append_right _ mb
  unfold newL at p
  split at p
  · have nf : D₀ ∉ r1.f := fun z => R1.new nD (.inl z)
    have no : D₀ ∉ rc.o := (Rc.frm D₀ mD).1
    cases m with
    | false =>
      have g := goes_mine Rc mD hf false
      simp only [Bool.false_eq_true, if_false, List.append_nil] at g
      have ex : Ext r1 H1 ⟨r1.f, rc.o⟩ Hc := ⟨⟨[], rfl, fun _ z => by simp at z⟩, e'.le, e'.fr, e'.nw, e'.st⟩
      refine p ⟨r1.f, rc.o⟩ Hc (.ref D₀) (e1.trans ex) ⟨Rc.len, Rc.nd, fun b mb => Rc.frm b (hf b mb), fun n o b q1 q2 => (Rc.obj n o b q1 q2).go g rfl⟩ ?_
      simp only [RD]
      exact ⟨D₀, accV, rfl, ⟨.inl hD, fun z => z.elim nf no⟩, hacc.go g⟩
    | true =>
      have g := goes_mine Rc mD hf true
      simp only [if_true] at g
      have ex : Ext r1 H1 ⟨r1.f, rc.o ++ [D₀]⟩ Hc := by
        obtain ⟨t, et⟩ := e'.le
        refine ⟨⟨[], rfl, fun _ z => by simp at z⟩, ⟨t ++ [D₀], by show rc.o ++ [D₀] = _; rw [et, List.append_assoc]⟩, e'.fr, fun b mb n => ?_, e'.st⟩
        rcases List.mem_append.mp mb with mb | mb
        · exact e'.nw b mb n
        · rw [List.mem_singleton.mp mb]; exact nD
      refine p ⟨r1.f, rc.o ++ [D₀]⟩ Hc (.ref D₀) (e1.trans ex) ⟨?_, List.nodup_append.mpr ⟨Rc.nd, by simp, fun b mb c mc q => ?_⟩, fun b mb => ⟨fun z => ?_, (Rc.frm b (hf b mb)).2⟩, fun n o b q1 q2 => ?_⟩ ?_
      · show (rc.o ++ [D₀]).length = (hE ++ [O.lst acc]).length
        rw [List.length_append, List.length_append, Rc.len]
        rfl
      · rw [List.mem_singleton.mp mc] at q
        exact no (q ▸ mb)
      · rcases List.mem_append.mp z with z | z
        · exact (Rc.frm b (hf b mb)).1 z
        · rw [List.mem_singleton.mp z] at mb
          exact nf mb
      · have q2 : (rc.o ++ [D₀])[n]? = some b := q2
        by_cases hn : n < hE.length
        · rw [List.getElem?_append_left hn] at q1
          rw [List.getElem?_append_left (by rw [Rc.len]; exact hn)] at q2
          exact (Rc.obj n o b q1 q2).go g rfl
        · have hl : n < (hE ++ [O.lst acc]).length := (List.getElem?_eq_some_iff.mp q1).1
          have : n = hE.length := by simp at hl; omega
          subst this
          rw [List.getElem?_append_right (Nat.le_refl _)] at q1
          rw [List.getElem?_append_right (by rw [Rc.len]; exact Nat.le_refl _), Rc.len] at q2
          simp at q1 q2
          subst q1 q2
          exact ⟨accV, hD, hacc.go g⟩
      · simp only [RD]
        refine ⟨D₀, rfl, ?_⟩
        show (rc.o ++ [D₀])[hE.length]? = some D₀
        rw [← Rc.len]
        simp
  · exact p.elim
theorem lc_rd {m : Bool} {vs : List Nat} {tg : Tg} {it : It} {ifs : Cs} {c : C} {N : List Str} {σ : L2.St} {H : Hp} {Q : VK} (htg : tgIn vs tg = true) (q : tE (sy X) W E (.lc m vs tg it ifs c) σ H Q) : tLc (tI (sy X) W E it) (gTg X.K tg) (tAs (sy X) noW E ifs) (tE (sy X) noW E c) ((vs.map fun i => (N.getD i "", i)).map (·.2)) σ H Q := by
  obtain ⟨r, L, h, rl, rh, p⟩ := q
  have hown : (vs.map fun i => (N.getD i "", i)).map (·.2) = vs := by
    rw [List.map_map]
    exact List.map_id _
  rw [hown]
  refine ⟨r, L, h, rl, rh, (bindP (rel := RI (sy X)) p).imp fun J H1 ⟨r1, s, h1, _, e1, rh1, ri, p1⟩ => fun D₀ nD => ?_⟩
  dsimp only at p1
  generalize hst : (fun (d : D) (h : Hs) => stepC (setTg tg d (wipeL vs L)) (fun L h => exA E ifs L h) (fun L h => ex E c false L h) h) = step at p1
  cases el : lcLoop s step s.xs h1 with
  | bad => rw [el] at p1; exact p1.elim
  | exc c x h => exact absurd el (lc_noX _ _ _ _ _)
  | ok ys0 hE =>
    rw [el] at p1
    have p1 : Post (sy X) (RD (sy X)) r H (fun cls d H' => W cls d σ H') (newL m ys0 hE) Q := p1
    have hlim : ys0.length ≤ sizeLine := by
      unfold newL at p1
      split at p1
      · rename_i z; exact ble_lim z
      · exact p1.elim
    refine ⟨fun i mm Hc => ∃ rc h' acc accV ys, Hc D₀ = some (.lst accV) ∧ D₀ ∈ rc.f ∧ Ext r1 H1 rc Hc ∧ RelH (sy X) rc Hc h' ∧ RDs (sy X) rc Hc acc accV ∧ mm = s.xs.length - i ∧ i ≤ s.xs.length ∧ lcLoop s step (s.xs.drop i) h' = .ok ys hE ∧ acc ++ ys = ys0,
      ⟨s.xs.length, r1.addF D₀, h1, [], [], ys0, upd_same, List.mem_cons_self .., Ext.growF nD, rh1.growF nD (fun _ e => nomatch e) (fun _ e => nomatch e), RDs.nil, rfl, Nat.zero_le _, el, rfl⟩, ?_⟩
    rintro i mm Hc ⟨rc, h', acc, accV, ys, hD, mD, e', R', hacc, rfl, hi', hl, hys⟩
    have nr : D₀ ∉ rc.o := (R'.frm D₀ mD).1
    cases hd : s.xs.drop i with
    | nil =>
      rw [hd] at hl
      obtain ⟨hc, rfl, rfl⟩ := lc_nil hl
      have hlen : s.xs.length ≤ i := List.drop_eq_nil_iff.mp hd
      refine .inl ⟨(ri i rc _ h' e'.goes R' hc).2 (Nat.le_antisymm hlen hi'), ?_⟩
      rw [List.append_nil] at hys
      subst hys
      exact made_post rh1 nD e1 e' mD R' hD hacc p1
    | cons d rest =>
      rw [hd] at hl
      obtain ⟨hc, od, h2, ys2, hstep, hl2, rfl⟩ := lc_cons hl
      have hlt : i < s.xs.length := by
        have := congrArg List.length hd
        rw [List.length_drop, List.length_cons] at this
        omega
      have hdi : s.xs[i]? = some d := by
        have := congrArg (fun l => l[0]?) hd
        simpa using this
      have hrest : s.xs.drop (i + 1) = rest := by
        have := congrArg List.tail hd
        simpa using this
      obtain ⟨go, yl⟩ := (ri i rc _ h' e'.goes R' hc).1 d hdi
      refine .inr ⟨go, fun H' => ∃ rc h' acc accV ys, H' D₀ = some (.lst accV) ∧ D₀ ∈ rc.f ∧ Ext r1 H1 rc H' ∧ RelH (sy X) rc H' h' ∧ RDs (sy X) rc H' acc accV ∧ s.xs.length - (i + 1) = s.xs.length - (i + 1) ∧ i + 1 ≤ s.xs.length ∧ lcLoop s step (s.xs.drop (i + 1)) h' = .ok ys hE ∧ acc ++ ys = ys0,
        fun H' ⟨r'', h'', acc2, accV2, ys3, q⟩ => ⟨s.xs.length - (i + 1), by omega, r'', h'', acc2, accV2, ys3, q⟩, fun x H'' hy => ?_⟩
      obtain ⟨ey, Ry, hx⟩ := yl x H'' hy
      have mono_mem : ∀ {r3 : Rg} {H3 : Hp}, Ext rc H'' r3 H3 → D₀ ∈ r3.f := fun {r3 H3} e3 => by
        obtain ⟨t, et, _⟩ := e3.lf
        rw [et]; exact List.mem_append_right _ mD
      have hstep2 := hstep
      rw [← hst] at hstep2
      dsimp only at hstep2
      cases hset : setTg tg d (wipeL vs L) with
      | none => rw [hset] at hstep2; cases hstep2
      | some L2 =>
        rw [hset] at hstep2
        simp only [stepC] at hstep2
        obtain ⟨b, hA, qA, hstep3⟩ := bind_ok hstep2
        have rlw : RelL (sy X) rc H'' (wipe σ vs) (wipeL vs L) := wipe_rel (rl.mono (e1.trans (e'.trans ey))) vs
        refine setTg_ok hset rlw hx fun σ2 rl2 same => ⟨wipe_same (same vs htg), rc, L2, h', rl2, Ry, ?_⟩
        rw [qA]
        intro r3 H3 b' e3 R3 hb'
        subst hb'
        cases b with
        | false =>
          rw [if_neg (by decide)] at hstep3 ⊢
          simp only [R.ok.injEq] at hstep3
          obtain ⟨rfl, rfl⟩ := hstep3
          have ec := ey.trans e3
          exact ⟨r3, hA, acc, accV, ys2, ec.fr D₀ _ hD nr, mono_mem e3, e'.trans ec, R3, hacc.mono ec, rfl, hlt, by rw [hrest]; exact hl2, hys⟩
        | true =>
          rw [if_pos rfl] at hstep3 ⊢
          obtain ⟨dy, h4, qy, hstep4⟩ := bind_ok hstep3
          simp only [R.ok.injEq] at hstep4
          obtain ⟨rfl, rfl⟩ := hstep4
          refine ⟨r3, L2, hA, rl2.mono e3, R3, ?_⟩
          rw [qy]
          intro r4 H4 v e4 R4 hv
          have ec := ey.trans (e3.trans e4)
          have m4 := mono_mem (e3.trans e4)
          have e14 := e'.trans ec
          have gw := goes_write (H := H4) (u := .lst (accV ++ [v])) m4
          refine ⟨accV, ec.fr D₀ _ hD nr, ?_, r4, h4, acc ++ [dy], accV ++ [v], ys2, upd_same, m4, ⟨e14.lf, e14.le, fun b o q n => ?_, e14.nw, fun b q => e14.st b (st_upd b q)⟩, R4.writeF m4 (fun _ e => nomatch e) (fun _ e => nomatch e), ((hacc.mono ec).append (RDs.cons hv RDs.nil)).go gw, rfl, hlt, by rw [hrest]; exact hl2, ?_⟩
          · have hlen := hacc.length
            have := congrArg List.length hys
            simp only [List.length_append, Option.toList, List.length_cons, List.length_nil] at this
            omega
          · rw [upd_ne (ne_of_none q nD)]
            exact e14.fr b o q n
          · rw [← hys]
            simp [Option.toList]

theorem sd_lc {m : Bool} {vs : List Nat} {tg : Tg} {it : It} {ifs : Cs} {c : C} {scope : Scope} {te iter elt : Expr} {fs : List Expr} {pos : Pos} (o : Ok T E k X W) (hb : blkC X.N X.env.scope scope (vs.map fun i => (X.N.getD i "", i)) = true) (htg : tgIn vs tg = true) (hi : PI X te iter (tI (sy X) W E it))
    (hg : ∀ (s : Shared) (H : Hp) (C : Addr) (cl : List (Str × Addr)) (fp : List Addr), PG (X.blk s H scope (compEnvC scope cl C X.env) fp) te (gTg X.K tg))
    (ht : ∀ (s : Shared) (H : Hp) (C : Addr) (cl : List (Str × Addr)) (fp : List Addr), PTs (X.blk s H scope (compEnvC scope cl C X.env) fp) fs (tAs (sy X) noW E ifs))
    (he : ∀ (s : Shared) (H : Hp) (C : Addr) (cl : List (Str × Addr)) (fp : List Addr), PE (X.blk s H scope (compEnvC scope cl C X.env) fp) elt (tE (sy X) noW E c)) (hs : ∀ x, foldedSetIterable iter X.env x = pure x) :
    PE X (.ListComp elt [⟨te, iter, fs, 0⟩] scope pos) (tE (sy X) W E (.lc m vs tg it ifs c)) := by
  exact PE.imp (pe_lc o.calm o.nd hi (blkOk_by hb) hg ht he hs) fun σ H Q q => lc_rd htg q

/-! ### iterators -/
/-- the list at a, whenever what is to stay stays -/
theorem goes_tup {K : PySem.W.Frag} {r r' : Rg} {H H' : Hp} (e : Goes r H r' H') {a : Addr} {xs : List V} (h : TupAt K r H a xs) : TupAt K r' H' a xs := by
  rcases h with ⟨h1, h2⟩ | h
  · exact .inl (e.obj a _ h1 h2)
  · exact .inr h
def LstG (Y : Sy) (r : Rg) (H : Hp) (g : List (Nat × List D)) (xs : List D) (a : Addr) : Prop := ∀ (r' : Rg) (H' : Hp) (h' : Hs), Goes r H r' H' → RelH Y r' H' h' → chkG h' g = true → ∃ vs, SqL Y.K H' a vs ∧ RDs Y r' H' xs vs
theorem lstG_trk {r : Rg} {H : Hp} {xs : List D} {n : Nat} {a : Addr} (ha : r.o[n]? = some a) : LstG (sy X) r H [(n, xs)] xs a := by
  intro r' H' h' e R hc
  simp only [chkG, List.all_cons, List.all_nil, Bool.and_true] at hc
  have ha' := e.loc _ _ ha
  split at hc
  · rename_i ys q
    obtain ⟨vs, h1, h2⟩ := R.lst q ha'
    rw [D.beqs_eq hc] at h2
    exact ⟨vs, SqL.of h1, h2⟩
  · cases hc
theorem lstG_frz {r : Rg} {H : Hp} {xs : List D} {a : Addr} (h : RD (sy X) r H (.lst xs) (.ref a)) : LstG (sy X) r H [] xs a := fun r' H' h' e R hc => by
  obtain ⟨b, vs, q, h1, h2⟩ := (h.go e).lst_inv
  cases q
  exact ⟨vs, h1.1.sq, h2⟩
/-- a list that is walked -/
theorem lstG_of {r : Rg} {H : Hp} {h : Hs} {d : D} {xs : List D} {v : V} (R : RelH (sy X) r H h) (hv : RD (sy X) r H d v) (e : lstI h d = some xs) : ∃ a vs, v = .ref a ∧ SqL X.K H a vs ∧ LstG (sy X) r H (grd d xs) xs a := by
  obtain ⟨a, vs, rfl, h1, h2⟩ := R.lstI hv e
  refine ⟨a, vs, rfl, h1.sq, ?_⟩
  cases d with
  | lst ds =>
    simp only [lstI, Option.some.injEq] at e
    subst e
    exact lstG_frz hv
  | loc n =>
    obtain ⟨b, q, hb⟩ := hv.loc_inv
    cases q
    exact lstG_trk hb
  | _ => simp only [lstI] at e; cases e
theorem itl_ok {r : Rg} {H : Hp} {g : List (Nat × List D)} {xs : List D} {a : Addr} (hl : LstG (sy X) r H g xs a) : RI (sy X) r H ⟨xs, g⟩ (Itl X.K a) := by
  intro i r' H' h' e R hc
  obtain ⟨vs, k1, k2⟩ := hl r' H' h' e R hc
  refine ⟨fun d hd => ?_, fun hl => ⟨vs, k1, by rw [k2.length, hl]; exact Nat.le_refl _⟩⟩
  obtain ⟨v, hv, rv⟩ := k2.get hd
  refine ⟨⟨vs, v, k1, hv⟩, fun x H'' hy => ?_⟩
  obtain ⟨rfl, hy⟩ := hy
  have z := hy vs k1
  rw [hv] at z
  cases z
  exact ⟨Ext.refl _ _, R, rv⟩
theorem itt_ok {r : Rg} {H : Hp} {xs : List D} {a : Addr} {vs : List V} (ht : TupAt X.K r H a vs) (hr : RDs (sy X) r H xs vs) : RI (sy X) r H ⟨xs, []⟩ (Itt X.K a) := by
  intro i r' H' h' e R hc
  have k1 := (goes_tup e ht).sq
  have k2 := hr.go e
  refine ⟨fun d hd => ?_, fun hl => ⟨vs, k1, by rw [k2.length, hl]; exact Nat.le_refl _⟩⟩
  obtain ⟨v, hv, rv⟩ := k2.get hd
  refine ⟨⟨vs, v, k1, hv⟩, fun x H'' hy => ?_⟩
  obtain ⟨rfl, hy⟩ := hy
  have z := hy vs k1
  rw [hv] at z
  cases z
  exact ⟨Ext.refl _ _, R, rv⟩
theorem rangeD_get : ∀ (n : Nat) (lo : Int) (i : Nat), (rangeD lo n)[i]? = if i < n then some (.int (lo + i)) else none
  | 0, lo, i => by simp [rangeD]
  | n + 1, lo, 0 => by simp [rangeD]
  | n + 1, lo, i + 1 => by
    simp only [rangeD, List.getElem?_cons_succ]
    rw [rangeD_get n (lo + 1) i]
    by_cases h : i < n
    · rw [if_pos h, if_pos (by omega)]
      congr 2
      omega
    · rw [if_neg h, if_neg (by omega)]
theorem rangeD_len : ∀ (n : Nat) (lo : Int), (rangeD lo n).length = n
  | 0, _ => rfl
  | n + 1, lo => by simp only [rangeD, List.length_cons, rangeD_len n]
theorem itr_ok {r : Rg} {H : Hp} {lo : Int} {n : Nat} : RI (sy X) r H ⟨rangeD lo n, []⟩ (Itr lo n) := by
  intro i r' H' h' e R hc
  refine ⟨fun d hd => ?_, fun hl => by rw [rangeD_len] at hl; rw [← hl]; exact Nat.le_refl _⟩
  have hd : (rangeD lo n)[i]? = some d := hd
  rw [rangeD_get] at hd
  split at hd
  · rename_i hi
    cases hd
    refine ⟨hi, fun x H'' hy => ?_⟩
    obtain ⟨rfl, rfl⟩ := hy
    exact ⟨Ext.refl _ _, R, RD.int'⟩
  · cases hd
theorem enumD_get : ∀ (xs : List D) (k : Int) (i : Nat), (enumD k xs)[i]? = (xs[i]?).map fun x => .tup [.int (k + i), x]
  | [], k, i => by simp [enumD]
  | x :: xs, k, 0 => by simp [enumD]
  | x :: xs, k, i + 1 => by
    simp only [enumD, List.getElem?_cons_succ]
    rw [enumD_get xs (k + 1) i]
    have e : k + 1 + (i : Int) = k + ((i + 1 : Nat) : Int) := by omega
    rw [e]
theorem enumD_len : ∀ (xs : List D) (k : Int), (enumD k xs).length = xs.length
  | [], _ => rfl
  | x :: xs, k => by simp only [enumD, List.length_cons, enumD_len xs]
theorem zipD_get : ∀ (xs ys : List D) (i : Nat) (d : D), (zipD xs ys)[i]? = some d → ∃ x y, xs[i]? = some x ∧ ys[i]? = some y ∧ d = .tup [x, y]
  | [], ys, i, d, h => by simp [zipD] at h
  | x :: xs, [], i, d, h => by simp [zipD] at h
  | x :: xs, y :: ys, 0, d, h => by
    simp only [zipD, List.getElem?_cons_zero, Option.some.injEq] at h
    exact ⟨x, y, rfl, rfl, h.symm⟩
  | x :: xs, y :: ys, i + 1, d, h => by
    simp only [zipD, List.getElem?_cons_succ] at h
    exact zipD_get xs ys i d h
theorem zipD_len : ∀ (xs ys : List D), (zipD xs ys).length = min xs.length ys.length
  | [], ys => by simp [zipD]
  | x :: xs, [] => by simp [zipD]
  | x :: xs, y :: ys => by simp only [zipD, List.length_cons, zipD_len xs ys]; omega
/-- a new pair -/
theorem pair_ok {r : Rg} {H : Hp} {h : Hs} {T₀ : Addr} {d e : D} {x y : V} (R : RelH (sy X) r H h) (nT : H T₀ = none) (hd : RD (sy X) r H d x) (he : RD (sy X) r H e y) : Ext r H r (upd H T₀ (.tup [x, y])) ∧ RelH (sy X) r (upd H T₀ (.tup [x, y])) h ∧ RD (sy X) r (upd H T₀ (.tup [x, y])) (.tup [d, e]) (.ref T₀) := by
  have ex := Ext.grow (r := r) (u := .tup [x, y]) nT
  refine ⟨ex, R.grow nT, ?_⟩
  simp only [RD]
  exact ⟨T₀, _, rfl, .inl ⟨upd_same, R.new nT⟩, RDs.cons (hd.mono ex) (RDs.cons (he.mono ex) RDs.nil)⟩
theorem ite_ok {r : Rg} {H : Hp} {xs : List D} {a : Addr} {vs : List V} (ht : TupAt X.K r H a vs) (hr : RDs (sy X) r H xs vs) : RI (sy X) r H ⟨enumD 0 xs, []⟩ (IteT X.K a) := by
  intro i r' H' h' e R hc
  have k1 := (goes_tup e ht).sq
  have k2 := hr.go e
  refine ⟨fun d hd => ?_, fun hl => ⟨vs, k1, by rw [k2.length, ← hl, enumD_len]⟩⟩
  have hd : (enumD 0 xs)[i]? = some d := hd
  rw [enumD_get] at hd
  obtain ⟨x, hx, rfl⟩ := Option.map_eq_some_iff.mp hd
  obtain ⟨v, hv, rv⟩ := k2.get hx
  refine ⟨⟨vs, v, k1, hv⟩, fun z H'' hy => ?_⟩
  obtain ⟨T₀, x', rfl, nT, rfl, q1⟩ := hy
  have z1 := q1 vs k1
  rw [hv] at z1
  cases z1
  rw [Int.zero_add]
  exact pair_ok R nT RD.int' rv
theorem itz_ok {r : Rg} {H : Hp} {xs ys : List D} {a b : Addr} {vs us : List V} (ht : TupAt X.K r H a vs) (hr : RDs (sy X) r H xs vs) (ht2 : TupAt X.K r H b us) (hr2 : RDs (sy X) r H ys us) : RI (sy X) r H ⟨zipD xs ys, []⟩ (RZ.ItzT X.K a b) := by
  intro i r' H' h' e R hc
  have k1 := (goes_tup e ht).sq
  have k2 := hr.go e
  have k3 := (goes_tup e ht2).sq
  have k4 := hr2.go e
  refine ⟨fun d hd => ?_, fun hl => ⟨vs, us, k1, k3, ?_⟩⟩
  · obtain ⟨x, y, h1, h2, rfl⟩ := zipD_get xs ys i d hd
    obtain ⟨v, hv, rv⟩ := k2.get h1
    obtain ⟨u, hu, ru⟩ := k4.get h2
    refine ⟨⟨vs, us, v, u, k1, k3, hv, hu⟩, fun z H'' hy => ?_⟩
    obtain ⟨T₀, x', y', rfl, nT, rfl, q1, q2⟩ := hy
    have z1 := q1 vs k1
    have z2 := q2 us k3
    rw [hv] at z1
    rw [hu] at z2
    cases z1
    cases z2
    exact pair_ok R nT rv ru
  · have : (zipD xs ys).length = i := hl
    rw [zipD_len] at this
    rw [k2.length, k4.length]
    omega
theorem itel_ok {r : Rg} {H : Hp} {g : List (Nat × List D)} {xs : List D} {a : Addr} (hl : LstG (sy X) r H g xs a) : RI (sy X) r H ⟨enumD 0 xs, g⟩ (Ite X.K a) := by
  intro i r' H' h' e R hc
  obtain ⟨vs, k1, k2⟩ := hl r' H' h' e R hc
  refine ⟨fun d hd => ?_, fun hl => ⟨vs, k1, by rw [k2.length, ← hl, enumD_len]; exact Nat.le_refl _⟩⟩
  have hd : (enumD 0 xs)[i]? = some d := hd
  rw [enumD_get] at hd
  obtain ⟨x, hx, rfl⟩ := Option.map_eq_some_iff.mp hd
  obtain ⟨v, hv, rv⟩ := k2.get hx
  refine ⟨⟨vs, v, k1, hv⟩, fun z H'' hy => ?_⟩
  obtain ⟨T₀, x', rfl, nT, rfl, q1⟩ := hy
  have z1 := q1 vs k1
  rw [hv] at z1
  cases z1
  rw [Int.zero_add]
  exact pair_ok R nT RD.int' rv
theorem itzl_ok {r : Rg} {H : Hp} {g g2 : List (Nat × List D)} {xs ys : List D} {a b : Addr} (hl : LstG (sy X) r H g xs a) (hl2 : LstG (sy X) r H g2 ys b) : RI (sy X) r H ⟨zipD xs ys, g ++ g2⟩ (Itz X.K a b) := by
  intro i r' H' h' e R hc
  have hc : chkG h' (g ++ g2) = true := hc
  simp only [chkG, List.all_append, Bool.and_eq_true] at hc
  obtain ⟨vs, k1, k2⟩ := hl r' H' h' e R hc.1
  obtain ⟨us, k3, k4⟩ := hl2 r' H' h' e R hc.2
  refine ⟨fun d hd => ?_, fun hl => ⟨vs, us, k1, k3, ?_⟩⟩
  · obtain ⟨x, y, h1, h2, rfl⟩ := zipD_get xs ys i d hd
    obtain ⟨v, hv, rv⟩ := k2.get h1
    obtain ⟨u, hu, ru⟩ := k4.get h2
    refine ⟨⟨vs, us, v, u, k1, k3, hv, hu⟩, fun z H'' hy => ?_⟩
    obtain ⟨T₀, x', y', rfl, nT, rfl, q1, q2⟩ := hy
    have z1 := q1 vs k1
    have z2 := q2 us k3
    rw [hv] at z1
    rw [hu] at z2
    cases z1
    cases z2
    exact pair_ok R nT rv ru
  · have : (zipD xs ys).length = i := hl
    rw [zipD_len] at this
    rw [k2.length, k4.length]
    omega
end
end EV

set_option Elab.async false
set_option linter.all false
set_option maxRecDepth 100000
set_option maxHeartbeats 4000000
/-! EV 10: each expression's rule. -/
namespace EV
open PySem PySem.Spec PyProof.Rows L2

section
variable {T : Tab} {E : Ev} {k : Nat} {X : Cx} {W : WX} {pos p : Pos}
theorem here_of {r : Rg} {H : Hp} {h : Hs} {W' : XK} {Q : VK} {d : D} {v : V} (q : Post (sy X) (RD (sy X)) r H W' (.ok d h) Q) (R : RelH (sy X) r H h) (hv : RD (sy X) r H d v) : Q v H := q r H v (Ext.refl _ _) R hv
theorem sd_var {i : Nat} {x : Str} (hN : X.N[i]? = some x) (hv : Vis X.env.scope x) (hd : (x == ("__debug__" : Str)) = false) (hcd : (x == ("__classdict__" : Str)) = false) : PE X (.Name x pos) (tE (sy X) W E (.var i)) := by
  refine PE.imp (pe_var hN hv hd hcd) fun σ H Q ⟨r, L, h, rl, rh, q⟩ => ?_
  simp only [ex, tst] at q
  split at q
  · rename_i d e
    obtain ⟨v, h1, h2⟩ := rl.get i d e
    exact ⟨v, h1, here_of q rh h2⟩
  · exact q.elim
theorem sd_int {i : Int} {j : Nat} : PE X (.Constant (.int i) j pos) (tE (sy X) W E (.cint i)) := PE.imp pe_int fun σ H Q ⟨r, L, h, rl, rh, q⟩ => here_of q rh RD.int'
theorem sd_bl {i : Bool} {j : Nat} : PE X (.Constant (.bool i) j pos) (tE (sy X) W E (.cbl i)) := PE.imp pe_bl fun σ H Q ⟨r, L, h, rl, rh, q⟩ => here_of q rh RD.bl'
theorem sd_non {j : Nat} : PE X (.Constant .none j pos) (tE (sy X) W E .cnon) := PE.imp pe_non fun σ H Q ⟨r, L, h, rl, rh, q⟩ => here_of q rh RD.non'
theorem sd_str {x : Str} {j : Nat} : PE X (.Constant (.str x) j pos) (tE (sy X) W E (.cstr x)) := PE.imp pe_str fun σ H Q ⟨r, L, h, rl, rh, q⟩ => here_of q rh RD.str'
theorem sd_glo {i : Nat} {x : Str} (o : Ok T E k X W) (hi : T.gs[i]? = some (some x)) (hg : glB X.env.scope x = true) : PE X (.Name x pos) (tE (sy X) W E (.glo i)) := by
  obtain ⟨h1, h2⟩ := glB_ok hg
  cases e : E.G[i]? with
  | none =>
    refine ⟨fun pins s σ H Q I ⟨r, L, h, rl, rh, q⟩ => ?_⟩
    simp only [ex, tst, e, optD] at q
    exact q.elim
  | some d =>
    obtain ⟨u, v, h3, h4, h5⟩ := o.glo i x d hi e
    refine PE.imp (pe_glob h1 h3 h4 h2) fun σ H Q ⟨r, L, h, rl, rh, q⟩ => ?_
    simp only [ex, tst, e, optD] at q
    exact here_of q rh (h5 r H)
theorem ty_boot {n : String} (h : tyOk n = true) : Str.ofString n ∈ tyNames ∧ bootBuiltins (Str.ofString n) = some (.type n) ∧ Str.ofString n ≠ ("__name__" : Str) := by
  simp only [tyOk, Bool.or_eq_true, beq_iff_eq] at h
  rcases h with ((((rfl | rfl) | rfl) | rfl) | rfl) | rfl <;> exact ⟨by decide +kernel, by decide +kernel, by decide +kernel⟩
theorem sd_tyv {n : String} (o : Ok T E k X W) (hg : glB X.env.scope (Str.ofString n) = true) (ht : tyOk n = true) : PE X (.Name (Str.ofString n) pos) (tE (sy X) W E (.tyv n)) := by
  obtain ⟨h1, h2⟩ := glB_ok hg
  obtain ⟨h3, h4, h5⟩ := ty_boot ht
  refine PE.imp (pe_bltn (v := .ty n) h1 (o.typ _ h3) h4 rfl h5 h2) fun σ H Q ⟨r, L, h, rl, rh, q⟩ => here_of q rh ?_
  simp only [RD]
theorem sd_bin {op : Operator} {a b : C} {l r : Expr} (ha : PE X l (tE (sy X) W E a)) (hb : PE X r (tE (sy X) W E b)) : PE X (.BinOp l op r pos) (tE (sy X) W E (.bin op a b)) :=
  PE.imp (pe_op (op_bin op) ha hb) fun σ H Q q => two_of (fun _ _ _ => noX_bin) (fun R h1 h2 p => ⟨_, _, _, _, R, h1, h2, p⟩) q
theorem sd_cmp {op : CmpOp} {a b : C} {l r : Expr} (o : Ok T E k X W) (hs : isSetE r = false) (ha : PE X l (tE (sy X) W E a)) (hb : PE X r (tE (sy X) W E b)) : PE X (.Compare l [op] [r] pos) (tE (sy X) W E (.cmp op a b)) :=
  PE.imp (pe_cmpR (op_cmp op o.units) ha hb (marks_of hs)) fun σ H Q q => two_of (fun _ _ _ => noX_cmp) (fun R h1 h2 p => ⟨_, _, _, _, R, h1, h2, p⟩) q
theorem cmp_bl {op : CmpOp} {a b d : D} {h h' : Hs} (e : opCmp op a b h = .ok d h') : ∃ k, d = .bl k ∧ h = h' := by
  have ob : ∀ {o : Option Bool}, optB o h = .ok d h' → ∃ k, d = .bl k ∧ h = h' := fun {o} e => by
    cases o with
    | none => cases e
    | some b => simp only [optB, R.ok.injEq] at e; exact ⟨b, e.1.symm, e.2⟩
  have ci : ∀ {f : Int → Int → Bool}, cmpI f a b h = .ok d h' → ∃ k, d = .bl k ∧ h = h' := fun {f} e => by
    unfold cmpI at e
    split at e
    · simp only [R.ok.injEq] at e; exact ⟨_, e.1.symm, e.2⟩
    · cases e
  cases op
  case Eq => exact ob e
  case NotEq => exact ob e
  case Lt => exact ci e
  case LtE => exact ci e
  case Gt => exact ci e
  case GtE => exact ci e
  case In => exact ob e
  case NotIn => exact ob e
  case Is =>
    cases b <;> first | (simp only [opCmp] at e; cases e; done) | skip
    simp only [opCmp, R.ok.injEq] at e
    exact ⟨_, e.1.symm, e.2⟩
  case IsNot =>
    cases b <;> first | (simp only [opCmp] at e; cases e; done) | skip
    simp only [opCmp, R.ok.injEq] at e
    exact ⟨_, e.1.symm, e.2⟩
/-- a comparison as a test -/
theorem tst_cmp {op : CmpOp} {a b : D} {h : Hs} {r : Rg} {H H2 : Hp} {r2 : Rg} {W' : XK} {Q : Bool → Hp → Prop} (p : Post (sy X) relB r H W' ((opCmp op a b h).bind fun x h => (match truthy h x with
    | some b => .ok (.bl b) h
    | none => .bad)) Q) (e : Ext r H r2 H2) : Pok (sy X) (RD (sy X)) r2 H2 (opCmp op a b h) (fun x H' => ∃ k, x = .bl k ∧ Q k H') := by
  cases q : opCmp op a b h with
  | bad => rw [q] at p; exact p.elim
  | exc c x h => exact absurd q (noX_cmp _ _ _)
  | ok d h' =>
    obtain ⟨k, rfl, rfl⟩ := cmp_bl q
    rw [q] at p
    intro r' H' b e' R hb
    exact ⟨k, hb.bl_inv, p r' H' k (e.trans e') R rfl⟩
theorem td_cmp {op : CmpOp} {a b : C} {l r : Expr} (o : Ok T E k X W) (hs : isSetE r = false) (ha : PE X l (tE (sy X) W E a)) (hb : PE X r (tE (sy X) W E b)) : PT X (.Compare l [op] [r] pos) (tT (sy X) W E (.cmp op a b)) := by
  refine PT.imp (pt_cmpR (op_cmp op o.units) ha hb (marks_of hs)) fun σ H Q ⟨r, L, hh, rl, rh, q⟩ => ?_
  have q : Post (sy X) relB r H (fun cls d H' => W cls d σ H') (((ex E a false L hh).bind fun x h => (ex E b false L h).bind fun y h => opCmp op x y h).bind fun x h => (match truthy h x with
    | some b => .ok (.bl b) h
    | none => .bad)) Q := q
  refine ⟨r, L, hh, rl, rh, ?_⟩
  cases ea : ex E a false L hh with
  | bad => rw [ea] at q; exact q.elim
  | exc c x h => rw [ea] at q; exact q
  | ok d1 h1 =>
    rw [ea] at q
    intro r1 H1 x e1 R1 hx
    refine ⟨r1, L, h1, rl.mono e1, R1, ?_⟩
    simp only [R.bind] at q
    cases eb : ex E b false L h1 with
    | bad => rw [eb] at q; exact q.elim
    | exc c x h => rw [eb] at q; exact Post.shift q e1
    | ok d2 h2 =>
      rw [eb] at q
      intro r2 H2 y e2 R2 hy
      exact ⟨r2, d1, d2, h2, R2, hx.mono e2, hy, tst_cmp q (e1.trans e2)⟩
theorem marks2_of {op op2 : CmpOp} {b c : Expr} (h : isSetE c = false) : lastMarks [op, op2] [b, c] = false := by
  show behindInMarks op2 c = false
  exact marks_of h
/-- the reading of a chain -/
theorem chain_rd {op op2 : CmpOp} {a b c : C} {σ : L2.St} {H : Hp} {Q : VK} {r : Rg} {L : Lc} {hh : Hs} (rl : RelL (sy X) r H σ L) (rh : RelH (sy X) r H hh)
    (q : Post (sy X) (RD (sy X)) r H (fun cls d H' => W cls d σ H') ((ex E a false L hh).bind fun x h => (ex E b false L h).bind fun y h => (opCmp op x y h).bind fun z h => (match z with
    | .bl true => (ex E c false L h).bind fun u h => opCmp op2 y u h
    | .bl false => .ok (.bl false) h
    | _ => .bad)) Q) : tChain (rCmp (sy X) op) (rCmp (sy X) op2) (tE (sy X) W E a) (tE (sy X) W E b) (tE (sy X) W E c) σ H Q := by
  refine ⟨r, L, hh, rl, rh, (bindS (rel := RD (sy X)) q (Ext.refl _ _)).imp fun x H1 ⟨r1, d1, h1, _, e1, R1, hx, q1⟩ => ⟨r1, L, h1, rl.mono e1, R1, (bindS (rel := RD (sy X)) q1 e1).imp fun y H2 ⟨r2, d2, h2, _, e2, R2, hy, q2⟩ => ?_⟩⟩
  refine ⟨r2, d1, d2, h2, R2, hx.mono e2, hy, ?_⟩
  try dsimp only at q2
  cases ec : opCmp op d1 d2 h2 with
  | bad => rw [ec] at q2; exact q2.elim
  | exc c x h => exact absurd ec (noX_cmp _ _ _)
  | ok d h' =>
    obtain ⟨k, rfl, rfl⟩ := cmp_bl ec
    rw [ec] at q2
    intro r3 H3 z e3 R3 hz
    refine ⟨k, hz.bl_inv, ?_⟩
    have e123 := e1.trans (e2.trans e3)
    cases k with
    | false =>
      rw [if_neg (by decide)]
      exact q2 r3 H3 (.bl false) e123 R3 RD.bl'
    | true =>
      rw [if_pos rfl]
      have q2 : Post (sy X) (RD (sy X)) r H (fun cls d H' => W cls d σ H') ((ex E c false L h2).bind fun u h => opCmp op2 d2 u h) Q := q2
      exact ⟨r3, L, h2, rl.mono e123, R3, (bindS (rel := RD (sy X)) q2 e123).imp fun w H4 ⟨r4, d4, h4, _, e4, R4, hw, q4⟩ => ⟨r4, d2, d4, h4, R4, hy.mono (e3.trans e4), hw, (q4.shift (e123.trans e4)).pok noX_cmp⟩⟩
theorem sd_chain {op op2 : CmpOp} {a b c : C} {l r r2 : Expr} (o : Ok T E k X W) (hs2 : isSetE r2 = false) (ha : PE X l (tE (sy X) W E a)) (hb : PE X r (tE (sy X) W E b)) (hc : PE X r2 (tE (sy X) W E c)) : PE X (.Compare l [op, op2] [r, r2] pos) (tE (sy X) W E (.chain op op2 a b c)) :=
  PE.imp (pe_chain (op_cmp op o.units) (op_cmp op2 o.units) ha hb hc (marks2_of hs2)) fun σ H Q ⟨r, L, hh, rl, rh, q⟩ => chain_rd rl rh q
theorem chain_bl {op op2 : CmpOp} {x y z d : D} {c : C} {L : Lc} {h h' : Hs} (e : (match z with
    | .bl true => (ex E c false L h).bind fun u h => opCmp op2 y u h
    | .bl false => .ok (.bl false) h
    | _ => .bad) = .ok d h') : ∃ k, d = .bl k := by
  split at e
  · obtain ⟨u, h1, _, e2⟩ := bind_ok e
    obtain ⟨k, rfl, _⟩ := cmp_bl e2
    exact ⟨k, rfl⟩
  · simp only [R.ok.injEq] at e
    exact ⟨false, e.1.symm⟩
  · cases e
theorem tst_bl {r : R D} (hb : ∀ d h, r = .ok d h → ∃ k, d = .bl k) {rr : Rg} {H : Hp} {W' : XK} {Q : Bool → Hp → Prop} (p : Post (sy X) relB rr H W' (tst true r) Q) : Post (sy X) (RD (sy X)) rr H W' r (fun x H' => ∃ k, x = .bl k ∧ Q k H') := by
  cases r with
  | bad => exact p.elim
  | exc c x h => exact p
  | ok d h =>
    obtain ⟨k, rfl⟩ := hb d h rfl
    intro r' H' b e R hb
    exact ⟨k, hb.bl_inv, p r' H' k e R rfl⟩
theorem td_chain {op op2 : CmpOp} {a b c : C} {l r r2 : Expr} (o : Ok T E k X W) (hs2 : isSetE r2 = false) (ha : PE X l (tE (sy X) W E a)) (hb : PE X r (tE (sy X) W E b)) (hc : PE X r2 (tE (sy X) W E c)) : PT X (.Compare l [op, op2] [r, r2] pos) (tT (sy X) W E (.chain op op2 a b c)) :=
  PT.imp (pt_chain (op_cmp op o.units) (op_cmp op2 o.units) ha hb hc (marks2_of hs2)) fun σ H Q ⟨r, L, hh, rl, rh, q⟩ => chain_rd rl rh (tst_bl (fun d h e => by
    obtain ⟨x, h1, _, e⟩ := bind_ok e
    obtain ⟨y, h2, _, e⟩ := bind_ok e
    obtain ⟨z, h3, _, e⟩ := bind_ok e
    exact chain_bl (op := op) (x := x) e) q)
/-! ### and, or, not, if -/
theorem and_rd {a b : C} {σ : L2.St} {H : Hp} {Q : VK} (q : tE (sy X) W E (.and a b) σ H Q) : tAndV (tE (sy X) W E a) (tE (sy X) W E b) σ H Q := by
  obtain ⟨r, L, hh, rl, rh, q⟩ := q
  refine ⟨r, L, hh, rl, rh, (bindS (rel := RD (sy X)) q (Ext.refl _ _)).imp fun x H1 ⟨r1, d1, h1, _, e1, R1, hx, q1⟩ => ?_⟩
  try dsimp only at q1
  split at q1
  · exact ⟨true, hx.bl_inv, by rw [if_pos rfl]; exact ⟨r1, L, h1, rl.mono e1, R1, q1.shift e1⟩⟩
  · exact ⟨false, hx.bl_inv, by rw [if_neg (by decide)]; exact q1 r1 H1 _ e1 R1 RD.bl'⟩
  · exact q1.elim
theorem or_rd {a b : C} {σ : L2.St} {H : Hp} {Q : VK} (q : tE (sy X) W E (.or a b) σ H Q) : tOrV (tE (sy X) W E a) (tE (sy X) W E b) σ H Q := by
  obtain ⟨r, L, hh, rl, rh, q⟩ := q
  refine ⟨r, L, hh, rl, rh, (bindS (rel := RD (sy X)) q (Ext.refl _ _)).imp fun x H1 ⟨r1, d1, h1, _, e1, R1, hx, q1⟩ => ?_⟩
  try dsimp only at q1
  split at q1
  · exact ⟨true, hx.bl_inv, by rw [if_pos rfl]; exact q1 r1 H1 _ e1 R1 RD.bl'⟩
  · exact ⟨false, hx.bl_inv, by rw [if_neg (by decide)]; exact ⟨r1, L, h1, rl.mono e1, R1, q1.shift e1⟩⟩
  · exact q1.elim
theorem and_rt {a b : C} {σ : L2.St} {H : Hp} {Q : Bool → Hp → Prop} (q : tT (sy X) W E (.and a b) σ H Q) : tAnd (tT (sy X) W E a) (tT (sy X) W E b) σ H Q := by
  obtain ⟨r, L, hh, rl, rh, q⟩ := q
  refine ⟨r, L, hh, rl, rh, (bindS (rel := relB) q (Ext.refl _ _)).imp fun x H1 ⟨r1, d1, h1, _, e1, R1, hx, q1⟩ => ?_⟩
  have hx : d1 = .bl x := hx
  subst hx
  cases x with
  | true => rw [if_pos rfl]; exact ⟨r1, L, h1, rl.mono e1, R1, q1.shift e1⟩
  | false => rw [if_neg (by decide)]; exact q1 r1 H1 false e1 R1 rfl
theorem or_rt {a b : C} {σ : L2.St} {H : Hp} {Q : Bool → Hp → Prop} (q : tT (sy X) W E (.or a b) σ H Q) : tOr (tT (sy X) W E a) (tT (sy X) W E b) σ H Q := by
  obtain ⟨r, L, hh, rl, rh, q⟩ := q
  refine ⟨r, L, hh, rl, rh, (bindS (rel := relB) q (Ext.refl _ _)).imp fun x H1 ⟨r1, d1, h1, _, e1, R1, hx, q1⟩ => ?_⟩
  have hx : d1 = .bl x := hx
  subst hx
  cases x with
  | true => rw [if_pos rfl]; exact q1 r1 H1 true e1 R1 rfl
  | false => rw [if_neg (by decide)]; exact ⟨r1, L, h1, rl.mono e1, R1, q1.shift e1⟩
/-- the truth of a part -/
theorem asB_post {γ δ : Type} {rel2 : Rg → Hp → γ → δ → Prop} {r r1 : Rg} {H H1 : Hp} {W' : XK} {res : R D} {f : Bool → Hs → R γ} {Q : δ → Hp → Prop} (p : Post (sy X) rel2 r H W' ((asB res).bind f) Q) (e1 : Ext r H r1 H1) :
    Post (sy X) relB r1 H1 W' res (fun b H2 => ∃ r2 h2, Ext r1 H1 r2 H2 ∧ RelH (sy X) r2 H2 h2 ∧ Post (sy X) rel2 r H W' (f b h2) Q) := by
  cases res with
  | bad => exact p.elim
  | exc c x h => exact Post.shift (show Post (sy X) rel2 r H W' (.exc c x h) Q from p) e1
  | ok d h =>
    intro r' H' b e R hb
    have hb : d = .bl b := hb
    subst hb
    exact ⟨r', h, e, R, p⟩
theorem not_rt {a : C} {σ : L2.St} {H : Hp} {Q : Bool → Hp → Prop} (q : tT (sy X) W E (.not a) σ H Q) : tNot (tT (sy X) W E a) σ H Q := by
  obtain ⟨r, L, hh, rl, rh, q⟩ := q
  exact ⟨r, L, hh, rl, rh, (asB_post q (Ext.refl _ _)).imp fun b H1 ⟨r1, h1, e1, R1, q1⟩ => q1 r1 H1 _ e1 R1 rfl⟩
theorem ife_rd {c a b : C} {σ : L2.St} {H : Hp} {Q : VK} (q : tE (sy X) W E (.ife c a b) σ H Q) : tIf (tT (sy X) W E c) (tE (sy X) W E a) (tE (sy X) W E b) σ H Q := by
  obtain ⟨r, L, hh, rl, rh, q⟩ := q
  refine ⟨r, L, hh, rl, rh, (asB_post q (Ext.refl _ _)).imp fun b H1 ⟨r1, h1, e1, R1, q1⟩ => ?_⟩
  cases b with
  | true => rw [if_pos rfl]; exact ⟨r1, L, h1, rl.mono e1, R1, q1.shift e1⟩
  | false => rw [if_neg (by decide)]; exact ⟨r1, L, h1, rl.mono e1, R1, q1.shift e1⟩
/-- not e as a value -/
theorem sd_not {a : C} {x : Expr} (hv : PE X x (tE (sy X) W E a)) : PE X (.UnaryOp .Not x pos) (tE (sy X) W E (.not a)) := by
  refine PE.imp (pe_notT hv) fun σ H Q ⟨r, L, hh, rl, rh, q⟩ => ?_
  have q1 := (asB_post (res := tst true (ex E a false L hh)) q (Ext.refl _ _))
  refine ⟨r, L, hh, rl, rh, (bindS (rel := RD (sy X)) q1 (Ext.refl _ _)).imp fun x H1 ⟨r1, d1, h1, _, e1, R1, hx, q1⟩ => ?_⟩
  split at q1
  · rename_i b hb
    obtain ⟨r2, h2, e2, R2, q2⟩ := q1 r1 H1 b e1 R1 rfl
    exact ⟨b, tru_V R1 hx hb, q2 r2 H1 _ e2 R2 RD.bl'⟩
  · exact q1.elim
theorem sd_neg {a : C} {x : Expr} (hv : PE X x (tE (sy X) W E a)) : PE X (.UnaryOp .USub x pos) (tE (sy X) W E (.neg a)) := by
  refine PE.imp (pe_un un_neg hv) fun σ H Q ⟨r, L, hh, rl, rh, q⟩ => ?_
  refine ⟨r, L, hh, rl, rh, (bindS (rel := RD (sy X)) q (Ext.refl _ _)).imp fun x H1 ⟨r1, d1, h1, _, e1, R1, hx, q1⟩ => ?_⟩
  try dsimp only at q1
  split at q1
  · exact ⟨_, hx.int_inv, q1 r1 H1 _ e1 R1 RD.int'⟩
  · exact q1.elim
/-! ### displays, subscripts, slices -/
theorem sd_tup {es : Cs} {xs : List Expr} {n : Nat} (ha : PA X xs (tA (sy X) W E es)) : PE X (.Tuple xs n pos) (tE (sy X) W E (.tup es)) :=
  PE.imp (pe_tup ha) fun σ H Q ⟨r, L, hh, rl, rh, q⟩ => ⟨r, L, hh, rl, rh, (bindS (rel := RDs (sy X)) q (Ext.refl _ _)).imp fun x H1 ⟨r1, d1, h1, _, e1, R1, hx, q1⟩ => post_tup q1 e1 R1 hx⟩
theorem sd_lst {m : Bool} {es : Cs} {xs : List Expr} (ha : PA X xs (tA (sy X) W E es)) : PE X (.List xs pos) (tE (sy X) W E (.lst m es)) :=
  PE.imp (pe_lst ha) fun σ H Q ⟨r, L, hh, rl, rh, q⟩ => ⟨r, L, hh, rl, rh, (bindS (rel := RDs (sy X)) q (Ext.refl _ _)).imp fun x H1 ⟨r1, d1, h1, _, e1, R1, hx, q1⟩ => post_lst q1 e1 R1 hx⟩
theorem sd_sub {a b : C} {l r : Expr} (hs : isSlE r = false) (ha : PE X l (tE (sy X) W E a)) (hb : PE X r (tE (sy X) W E b)) : PE X (.Subscript l r pos) (tE (sy X) W E (.sub a b)) :=
  PE.imp (pe_ix ix_sub ha hb (plainIx_of hs)) fun σ H Q q => two_of (fun _ _ _ => noX_sub) (fun R h1 h2 p => ⟨_, _, _, _, R, h1, h2, p⟩) q
def relO (_ : Rg) (_ : Hp) (d : D) (o : Option Int) : Prop := ixOf d = some o
def tO (Y : Sy) (W : WX) (E : Ev) (c : C) : TO := fun σ H Q => ∃ r L h, RelL Y r H σ L ∧ RelH Y r H h ∧ Post Y relO r H (fun cls d H' => W cls d σ H') (bnd (isNo c) (ex E c false L h)) Q
theorem po_of {c : C} {e : Option Expr} (h : ∀ x, e = some x → isNo c = false ∧ PE X x (tE (sy X) W E c)) (h2 : e = none → isNo c = true) : PO X e (tO (sy X) W E c) := by
  cases e with
  | none =>
    refine ⟨fun pins s σ H Q I ⟨r, L, hh, rl, rh, q⟩ => po_none.run pins s σ H Q I ?_⟩
    have hn := h2 rfl
    rw [hn] at q
    cases c <;> simp only [isNo] at hn <;> first | cases hn; done | skip
    exact q r H none (Ext.refl _ _) rh rfl
  | some x =>
    obtain ⟨hn, hx⟩ := h x rfl
    refine ⟨fun pins s σ H Q I ⟨r, L, hh, rl, rh, q⟩ => (po_some hx).run pins s σ H Q I ⟨r, L, hh, rl, rh, ?_⟩⟩
    rw [hn] at q
    cases e : ex E c false L hh with
    | bad => rw [e] at q; exact q.elim
    | exc c x h => rw [e] at q; exact q
    | ok d h' =>
      rw [e] at q
      cases d with
      | int i =>
        intro r' H' b e' R hb
        exact ⟨i, hb.int_inv, q r' H' (some i) e' R rfl⟩
      | _ => exact q.elim
theorem sd_slc {a lo hi : C} {l : Expr} {u v : Option Expr} {p2 : Pos} (ha : PE X l (tE (sy X) W E a)) (hl : PO X u (tO (sy X) W E lo)) (hu : PO X v (tO (sy X) W E hi)) : PE X (.Subscript l (.Slice u v none p2) pos) (tE (sy X) W E (.slc a lo hi)) :=
  PE.imp (pe_slice sl_slc ha hl hu) fun σ H Q ⟨r, L, hh, rl, rh, q⟩ => ⟨r, L, hh, rl, rh, (bindS (rel := RD (sy X)) q (Ext.refl _ _)).imp fun x H1 ⟨r1, d1, h1, _, e1, R1, hx, q1⟩ =>
    ⟨r1, L, h1, rl.mono e1, R1, (bindS (rel := relO) q1 e1).imp fun y H2 ⟨r2, d2, h2, _, e2, R2, hy, q2⟩ =>
      ⟨r2, L, h2, rl.mono (e1.trans e2), R2, (bindS (rel := relO) q2 (e1.trans e2)).imp fun z H3 ⟨r3, d3, h3, _, e3, R3, hz, q3⟩ => ⟨r3, d1, d2, d3, h3, R3, hx.mono (e2.trans e3), hy, hz, (q3.shift (e1.trans (e2.trans e3))).pok noX_slc⟩⟩⟩⟩
end
end EV

set_option Elab.async false
set_option linter.all false
set_option maxRecDepth 100000
set_option maxHeartbeats 4000000
/-! EV 11: calls, argument lists, iterators. -/
namespace EV
open PySem PySem.Spec PyProof.Rows L2

section
variable {T : Tab} {E : Ev} {k : Nat} {X : Cx} {W : WX} {pos p : Pos}
/-! ### argument lists -/
theorem sa_nil : PA X [] (tA (sy X) W E .nil) := PA.imp pa_nil fun σ H Q ⟨r, L, hh, rl, rh, q⟩ => q r H [] (Ext.refl _ _) rh RDs.nil
theorem sa_cons {c : C} {cs : Cs} {e : Expr} {es : List Expr} (hs : isStarE e = false) (he : PE X e (tE (sy X) W E c)) (hr : PA X es (tA (sy X) W E cs)) : PA X (e :: es) (tA (sy X) W E (.cons c cs)) :=
  PA.imp (pa_cons he hr (starEach_no hs)) fun σ H Q ⟨r, L, hh, rl, rh, q⟩ => ⟨r, L, hh, rl, rh, (bindS (rel := RD (sy X)) q (Ext.refl _ _)).imp fun x H1 ⟨r1, d1, h1, _, e1, R1, hx, q1⟩ =>
    ⟨r1, L, h1, rl.mono e1, R1, (bindS (rel := RDs (sy X)) q1 e1).imp fun y H2 ⟨r2, d2, h2, _, e2, R2, hy, q2⟩ => q2 r2 H2 _ (e1.trans e2) R2 (RDs.cons (hx.mono e2) hy)⟩⟩
theorem sa_star {c : C} {cs : Cs} {e : Expr} {es : List Expr} (he : PE X e (tE (sy X) W E c)) (hr : PA X es (tA (sy X) W E cs)) : PA X (.Starred e p :: es) (tA (sy X) W E (.star c cs)) :=
  PA.imp (StX.pa_star he hr rfl) fun σ H Q ⟨r, L, hh, rl, rh, q⟩ => ⟨r, L, hh, rl, rh, (bindS (rel := RD (sy X)) q (Ext.refl _ _)).imp fun x H1 ⟨r1, d1, h1, _, e1, R1, hx, q1⟩ => by
    try dsimp only at q1
    split at q1
    · rename_i ys hi
      obtain ⟨a, vs, rfl, hq, hr⟩ := R1.items hx hi
      exact ⟨a, vs, rfl, hq.symm, r1, L, h1, rl.mono e1, R1, (bindS (rel := RDs (sy X)) q1 e1).imp fun y H2 ⟨r2, d2, h2, _, e2, R2, hy, q2⟩ => q2 r2 H2 _ (e1.trans e2) R2 ((hr.mono e2).append hy)⟩
    · exact q1.elim⟩
theorem sk_nil : PK X [] (tA (sy X) W E .nil) := ⟨fun pos pins s σ H Q I ⟨r, L, hh, rl, rh, q⟩ => pk_nil.run pos pins s σ H Q I (q r H [] (Ext.refl _ _) rh RDs.nil)⟩
theorem sk_cons {c : C} {cs : Cs} {e : Expr} {nm : Option Str} {kws : List Keyword} (he : PE X e (tE (sy X) W E c)) (hr : PK X kws (tA (sy X) W E cs)) : PK X (⟨nm, e, p⟩ :: kws) (tA (sy X) W E (.cons c cs)) :=
  ⟨fun pos pins s σ H Q I ⟨r, L, hh, rl, rh, q⟩ => (pk_cons he hr).run pos pins s σ H Q I ⟨r, L, hh, rl, rh, (bindS (rel := RD (sy X)) q (Ext.refl _ _)).imp fun x H1 ⟨r1, d1, h1, _, e1, R1, hx, q1⟩ =>
    ⟨r1, L, h1, rl.mono e1, R1, (bindS (rel := RDs (sy X)) q1 e1).imp fun y H2 ⟨r2, d2, h2, _, e2, R2, hy, q2⟩ => q2 r2 H2 _ (e1.trans e2) R2 (RDs.cons (hx.mono e2) hy)⟩⟩⟩

/-! ### own calls -/
theorem kw_names {kn : List Str} {env : Env} : ∀ {kws : List Keyword}, kws.map (·.arg) = kn.map some → (backToKw pos (keywordEach kws env)).all (·.1.isSome) = true ∧ (backToKw pos (keywordEach kws env)).filterMap (·.1) = kn ∧ (backToKw pos (keywordEach kws env)).any (·.1.isNone) = false := by
  induction kn with
  | nil =>
    intro kws h
    cases kws with
    | nil => exact ⟨rfl, rfl, rfl⟩
    | cons a b => simp at h
  | cons n kn ih =>
    intro kws h
    cases kws with
    | nil => simp at h
    | cons a b =>
      obtain ⟨nm, v, ps⟩ := a
      simp only [List.map_cons, List.cons.injEq] at h
      obtain ⟨h1, h2⟩ := h
      subst h1
      obtain ⟨i1, i2, i3⟩ := ih h2
      refine ⟨?_, ?_, ?_⟩
      · show (true && (backToKw pos (keywordEach b env)).all (·.1.isSome)) = true
        rw [i1]; rfl
      · show n :: (backToKw pos (keywordEach b env)).filterMap (·.1) = n :: kn
        rw [i2]
      · show (false || (backToKw pos (keywordEach b env)).any (·.1.isNone)) = false
        rw [i3]; rfl
section
variable {f : Addr} {fd : FuncData} {ps : List Str} {sp : Sp} {x : Str} {xs es : List Expr} {e : Expr} {kws : List Keyword} {t tk : TA} {n : Nat} {kn : List Str} {sl : List Sl}
/-- without keywords -/
def tOwn1 (Y : Sy) (sl : List Sl) (n : Nat) (sp : Sp) (W : WX) (t : TA) : TE := fun σ H Q => t σ H fun vs H1 => vs.length = n ∧ ∀ sv su fv, SlRs Y sl sv su → arr vs [] sv = some fv → sp fv H1 Q (WE W σ)
def tOwn0 (Y : Sy) (sl : List Sl) (n : Nat) (sp : Sp) (W : WX) : TE := fun σ H Q => 0 = n ∧ ∀ sv su fv, SlRs Y sl sv su → arr [] [] sv = some fv → sp fv H Q (WE W σ)
theorem pe_own0 (F : FnOk X.prog X.w X.K X.mg X.base (CX X.prog X.w) k f fd ps sp) (hr : Room k X.A) (hb : BindOk (sy X) fd ps n [] sl) (tkx : Takes X W) (hg : Gl X x) (hdb : (x == ("__debug__" : Str)) = false) (hm : X.mg x = some (.ref f)) (hk : PySem.W.keepIn X.K (.ref f) = true) :
    PE X (.Call (.Name x p) [] [] pos) (tOwn0 (sy X) sl n sp W) := by
  refine ⟨fun pins s σ H Q I h => ?_⟩
  refine wpAny_Call_Name_kw (ld_glob I hg hm ?_ hdb)
  exact PySem.W.callWith_K0 I.kIn hk (run_own (us := []) (ws := []) (vs := []) (zs := []) (kn := []) F hr hb tkx I .nil .nil h.1 rfl h.2)
theorem pe_own1 (F : FnOk X.prog X.w X.K X.mg X.base (CX X.prog X.w) k f fd ps sp) (hr : Room k X.A) (hb : BindOk (sy X) fd ps n [] sl) (tkx : Takes X W) (hg : Gl X x) (hdb : (x == ("__debug__" : Str)) = false) (hm : X.mg x = some (.ref f)) (hk : PySem.W.keepIn X.K (.ref f) = true)
    (ha : PA X (e :: es) t) (hst : isStarE e = false) (hns : (backTo pos (starEach es X.env)).any (·.1) = false) : PE X (.Call (.Name x p) (e :: es) [] pos) (tOwn1 (sy X) sl n sp W t) := by
  refine ⟨fun pins s σ H Q I h => ?_⟩
  refine wpAny_Call_Name_kw (ld_glob I hg hm ?_ hdb)
  refine PySem.W.callWith_K (h₀ := X.base) I.ok.mod.kin hk (thn (ha.run pos pins s σ H _ I h) fun us s1 ⟨vs, H1, I1, r, q⟩ => ⟨I1.kIn, ?_⟩) (starEach_no hst) hns
  exact run_own (us := us) (ws := []) (vs := vs) (zs := []) (kn := []) F hr hb tkx I1 r .nil q.1 rfl q.2
theorem pe_ownK (F : FnOk X.prog X.w X.K X.mg X.base (CX X.prog X.w) k f fd ps sp) (hr : Room k X.A) (hb : BindOk (sy X) fd ps n kn sl) (tkx : Takes X W) (hg : Gl X x) (hdb : (x == ("__debug__" : Str)) = false) (hm : X.mg x = some (.ref f)) (hk : PySem.W.keepIn X.K (.ref f) = true)
    (ha : PA X (e :: es) t) (hkw : PK X kws tk) (hst : isStarE e = false) (hns : (backTo pos (starEach (e :: es) X.env)).any (·.1) = false) (hkn : kws.map (·.arg) = kn.map some) : PE X (.Call (.Name x p) (e :: es) kws pos) (tOwn (sy X) sl n kn.length sp W t tk) := by
  refine ⟨fun pins s σ H Q I h => ?_⟩
  refine wpAny_Call_Name_kw (ld_glob I hg hm ?_ hdb)
  obtain ⟨k1, k2, k3⟩ := kw_names (pos := pos) (env := X.env) hkn
  refine PySem.W.callWith_KW (h₀ := X.base) I.ok.mod.kin hk k1 (thn (ha.run pos pins s σ H _ I h) fun us s1 ⟨vs, H1, I1, r, q⟩ => ?_) (by rw [hns, k3]; rfl) (starEach_no hst)
  refine thn (hkw.run pos pins s1 σ H1 _ I1 q) fun ws s2 ⟨zs, H2, I2, rz, q2⟩ => ?_
  rw [k2]
  exact ⟨I2.kIn, run_own F hr hb tkx I2 r rz q2.1 q2.2.1 q2.2.2⟩
end
theorem okK_len {N : List Str} {sc : Scope} : ∀ {cs : Cs} {es : List Keyword}, okK T N cs sc es = true → noStar cs = true ∧ lenCs cs = es.length
  | .nil, es, h => by
    cases es with
    | nil => exact ⟨rfl, rfl⟩
    | cons e es => simp only [okK] at h; cases h
  | .cons c r, es, h => by
    cases es with
    | nil => simp only [okK] at h; cases h
    | cons e es =>
      obtain ⟨nm, v, q⟩ := e
      cases nm with
      | none => simp only [okK] at h; cases h
      | some nm =>
        simp only [okK, Bool.and_eq_true] at h
        obtain ⟨h1, h2⟩ := okK_len h.2
        exact ⟨by simpa only [noStar] using h1, by simp only [lenCs, List.length_cons, h2]⟩
  | .star c r, es, h => by simp only [okK] at h; cases h
/-- the promise at a call -/
theorem sp_call {f sh : Nat} {sl : List Sl} {σ : L2.St} {H H2 : Hp} {Q : VK} {r r2 : Rg} {h2 : Hs} {ds zs : List D} {vs us : List V} (e2 : Ext r H r2 H2) (R2 : RelH (sy X) r2 H2 h2) (hd : RDs (sy X) r2 H2 ds vs) (hz : RDs (sy X) r2 H2 zs us) (hsl : E.shs[sh]? = some sl)
    (q : Post (sy X) (RD (sy X)) r H (fun cls d H' => W cls d σ H') (match (E.shs[sh]?).bind (arr ds zs) with
      | some l => callP E f l h2
      | none => .bad) Q) : ∀ sv su fv, SlRs (sy X) sl sv su → arr vs us sv = some fv → spF (sy X) E f fv H2 Q (WE W σ) := by
  intro sv su fv hs hfv
  rw [hsl] at q
  simp only [Option.bind_some] at q
  cases e : arr ds zs sl with
  | none => rw [e] at q; exact q.elim
  | some l =>
    rw [e] at q
    exact callP_post e2 R2 (arr_rds hd hz hs e hfv) q
theorem sd_call {f sh n : Nat} {es ks : Cs} {x : Str} {xs : List Expr} {kws : List Keyword} {kn : List Str} {sl : List Sl} (o : Ok T E k X W) (hg : glB X.env.scope x = true) (hf : T.fns[f]? = some (some x)) (hsh : T.shs[sh]? = some (f, n, kn, sl)) (hn : lenCs es = n) (hkn : kws.map (·.arg) = kn.map some) (hns : noStar es = true)
    (hos : oks T X.N es X.env.scope xs = true) (hxk : (!xs.isEmpty || kws.isEmpty) = true) (hok : okK T X.N ks X.env.scope kws = true) (ha : PA X xs (tA (sy X) W E es)) (hk : PK X kws (tA (sy X) W E ks)) : PE X (.Call (.Name x p) xs kws pos) (tE (sy X) W E (.call f sh es ks)) := by
  obtain ⟨g1, g2⟩ := glB_ok hg
  obtain ⟨a, fd, ps, m1, m2, F, hb⟩ := o.fns f x hf
  obtain ⟨hsl, hb⟩ := hb sh n kn sl hsh
  have nokw : kws = [] → kn = [] ∧ ks = .nil := fun e => by
    subst e
    refine ⟨?_, ?_⟩
    · cases kn with
      | nil => rfl
      | cons a b => simp at hkn
    · cases ks with
      | nil => rfl
      | cons c r => simp only [okK] at hok; cases hok
      | star c r => simp only [okK] at hok; cases hok
  cases xs with
  | nil =>
    have ees : es = .nil := by
      cases es with
      | nil => rfl
      | cons c r => simp only [oks] at hos; cases hos
      | star c r => simp only [noStar] at hns; cases hns
    subst ees
    cases kws with
    | nil =>
      obtain ⟨rfl, rfl⟩ := nokw rfl
      refine PE.imp (pe_own0 F o.rm hb o.tk g1 g2 m1 m2) fun σ H Q ⟨r, L, hh, rl, rh, q⟩ => ⟨hn, ?_⟩
      exact sp_call (Ext.refl _ _) rh RDs.nil RDs.nil hsl q
    | cons c d => cases hxk
  | cons e xs =>
    have hst : isStarE e = false := by
      cases es with
      | nil => simp only [oks] at hos; cases hos
      | cons c r => simp only [oks, Bool.and_eq_true, Bool.not_eq_true'] at hos; exact hos.1.1
      | star c r => simp only [noStar] at hns; cases hns
    have hany := fun pos => stars_of hns hos pos X.env
    cases kws with
    | nil =>
      obtain ⟨rfl, rfl⟩ := nokw rfl
      have hany2 : (backTo pos (starEach xs X.env)).any (·.1) = false := by
        have z := hany pos
        rw [starEach_no hst] at z
        exact z
      refine PE.imp (pe_own1 F o.rm hb o.tk g1 g2 m1 m2 ha hst hany2) fun σ H Q ⟨r, L, hh, rl, rh, q⟩ => ?_
      refine ⟨r, L, hh, rl, rh, (bindS (rel := RDs (sy X)) q (Ext.refl _ _)).imp fun vs H1 ⟨r1, d1, h1, eq1, e1, R1, hx, q1⟩ => ⟨?_, ?_⟩⟩
      · rw [hx.length, exs_len hns eq1]; exact hn
      · exact sp_call e1 R1 hx RDs.nil hsl q1
    | cons c d =>
      refine PE.imp (pe_ownK F o.rm hb o.tk g1 g2 m1 m2 ha hk hst (hany pos) hkn) fun σ H Q ⟨r, L, hh, rl, rh, q⟩ => ?_
      refine ⟨r, L, hh, rl, rh, (bindS (rel := RDs (sy X)) q (Ext.refl _ _)).imp fun vs H1 ⟨r1, d1, h1, eq1, e1, R1, hx, q1⟩ => ⟨r1, L, h1, rl.mono e1, R1, (bindS (rel := RDs (sy X)) q1 e1).imp fun zs H2 ⟨r2, d2, h2, eq2, e2, R2, hy, q2⟩ => ⟨?_, ?_, ?_⟩⟩⟩
      · rw [hx.length, exs_len hns eq1]; exact hn
      · obtain ⟨z1, z2⟩ := okK_len hok
        rw [hy.length, exs_len z1 eq2, z2]
        have := congrArg List.length hkn
        simpa using this
      · exact sp_call (e1.trans e2) R2 (hx.mono e2) hy hsl q2

/-! ### built-in calls -/
theorem boot_B (f : B) : bootBuiltins (nameB f) = some (bltV f) ∧ nameB f ≠ ("__name__" : Str) := by
  cases f <;> exact ⟨by decide +kernel, by decide +kernel⟩
theorem sd_blt {f : B} {es : Cs} {e : Expr} {xs : List Expr} (o : Ok T E k X W) (hg : glB X.env.scope (nameB f) = true) (hns : noStar es = true) (hos : oks T X.N es X.env.scope (e :: xs) = true) (ha : PA X (e :: xs) (tA (sy X) W E es)) : PE X (.Call (.Name (nameB f) p) (e :: xs) [] pos) (tE (sy X) W E (.blt f es)) := by
  obtain ⟨g1, g2⟩ := glB_ok hg
  obtain ⟨b1, b2⟩ := boot_B f
  have hst : isStarE e = false := by
    cases es with
    | nil => simp only [oks] at hos; cases hos
    | cons c r => simp only [oks, Bool.and_eq_true, Bool.not_eq_true'] at hos; exact hos.1.1
    | star c r => simp only [noStar] at hns; cases hns
  have hany2 : (backTo pos (starEach xs X.env)).any (·.1) = false := by
    have z := stars_of hns hos pos X.env
    rw [starEach_no hst] at z
    exact z
  have rd : ∀ σ H Q, tE (sy X) W E (.blt f es) σ H Q → tCB (rB (sy X) f) (tA (sy X) W E es) σ H Q := fun σ H Q ⟨r, L, hh, rl, rh, q⟩ =>
    ⟨r, L, hh, rl, rh, (bindS (rel := RDs (sy X)) q (Ext.refl _ _)).imp fun vs H1 ⟨r1, d1, h1, eq1, e1, R1, hx, q1⟩ =>
      ⟨r1, d1, h1, R1, hx, (q1.shift e1).pok noX_B⟩⟩
  cases f
  case len => exact PE.imp (pe_callB (id := "len") (call_B o.calm .len) g1 (o.blt .len) b1 ha b2 g2 (starEach_no hst) hany2) rd
  case isi => exact PE.imp (pe_callB (id := "isinstance") (call_B o.calm .isi) g1 (o.blt .isi) b1 ha b2 g2 (starEach_no hst) hany2) rd
  case all => exact PE.imp (pe_callB (id := "all") (call_B o.calm .all) g1 (o.blt .all) b1 ha b2 g2 (starEach_no hst) hany2) rd
  case any => exact PE.imp (pe_callB (id := "any") (call_B o.calm .any) g1 (o.blt .any) b1 ha b2 g2 (starEach_no hst) hany2) rd
  case sorted => exact PE.imp (pe_callB (id := "sorted") (call_B o.calm .sorted) g1 (o.blt .sorted) b1 ha b2 g2 (starEach_no hst) hany2) rd
  case sum => exact PE.imp (pe_callB (id := "sum") (call_B o.calm .sum) g1 (o.blt .sum) b1 ha b2 g2 (starEach_no hst) hany2) rd
  case max => exact PE.imp (pe_callB (id := "max") (call_B o.calm .max) g1 (o.blt .max) b1 ha b2 g2 (starEach_no hst) hany2) rd
  case min => exact PE.imp (pe_callB (id := "min") (call_B o.calm .min) g1 (o.blt .min) b1 ha b2 g2 (starEach_no hst) hany2) rd
  case int => exact PE.imp (pe_callTy (T := "int") (call_B o.calm .int) g1 (o.blt .int) b1 ha b2 g2 (starEach_no hst) hany2) rd
  case tuple => exact PE.imp (pe_callTy (T := "tuple") (call_B o.calm .tuple) g1 (o.blt .tuple) b1 ha b2 g2 (starEach_no hst) hany2) rd
  case listM => exact PE.imp (pe_callTy (T := "list") (call_B o.calm .listM) g1 (o.blt .listM) b1 ha b2 g2 (starEach_no hst) hany2) rd
  case list => exact PE.imp (pe_callTy (T := "list") (call_B o.calm .list) g1 (o.blt .list) b1 ha b2 g2 (starEach_no hst) hany2) rd
end
end EV

set_option Elab.async false
set_option linter.all false
set_option maxRecDepth 100000
set_option maxHeartbeats 4000000
/-! EV 12: methods, dicts, iterators. -/
namespace EV
open PySem PySem.Spec PyProof.Rows L2

section
variable {T : Tab} {E : Ev} {k : Nat} {X : Cx} {W : WX} {pos p apos mpos : Pos}
/-! ### methods -/
/-- what a receiver must be -/
def TyP (X : Cx) (T : String) (x : V) (H : Hp) : Prop := ∀ (pins : List (Addr × Obj)) (σ : L2.St) (s : Shared) (v : Value), Inv X pins σ H s → RelV x v → s.TypeIs v T ∧ ∀ a, v = .ref a → ∃ ob, s.heap.get? a = some ob ∧ ob.dict = none
theorem tyP_list {a : Addr} {H : Hp} {xs : List V} (h : SqL X.K H a xs) : TyP X "list" (.ref a) H := fun _ _ _ _ I r => tyV_is I r (.inl ⟨rfl, xs, h⟩)
theorem tyP_dict {a : Addr} {H : Hp} {lvs : List (PySem.Leaf × V)} (h : H a = some (DicL X.prog X.w a lvs)) : TyP X "dict" (.ref a) H := fun _ _ _ v I r => by
  cases (show v = Value.ref a from r)
  exact dl_at I h
def tBX (X : Cx) (T : String) (r : V → List V → Hp → VK → Prop) (to : TE) (t : TA) : TE := fun σ H Q => to σ H fun x H1 => TyP X T x H1 ∧ t σ H1 fun xs H2 => r x xs H2 Q
theorem pe_bx {T : String} {name : Str} {id : String} {r : V → List V → Hp → VK → Prop} {o e : Expr} {es : List Expr} {to : TE} {t : TA} {cpos : Pos} (pa : PlainAttrs T) (slot : Slot T name id) (hty : typeOf (.builtin id) = pure (.type "method_descriptor")) (hm : MtR X id r) (ho : PE X o to) (ha : PA X (e :: es) t)
    (hbase : attributeBase o name X.env (eval o X.env) = eval o X.env)
    (hfew : ((backTo cpos (starEach (e :: es) X.env)).all (fun x => !x.1) && (backToKw cpos (keywordEach [] X.env)).all (fun x => x.1.isSome)
      && decide ((e :: es).length + ([] : List Keyword).length + (if ([] : List Keyword).isEmpty then 0 else 1) < 30)) = true)
    (hline : (apos.endLine == cpos.line) = true) (hs : starEach (e :: es) X.env = (false, eval e X.env) :: starEach es X.env) (hplain : (backTo cpos (starEach es X.env)).any (·.1) = false) :
    PE X (.Call (.Attribute o name apos) (e :: es) [] cpos) (tBX X T r to t) := by
  refine ⟨fun pins s σ H Q I h => ?_⟩
  refine wpAny_Call_method_late hbase hfew hline rfl (thn (ho.run pins s σ H _ I h) fun v s1 ⟨x, H1, I1, r1, ty, q1⟩ => ?_)
  obtain ⟨h1, h2⟩ := ty _ _ _ _ I1 r1
  refine ⟨T, id, pa, slot, hty, h1, h2, ?_⟩
  have hA := ha.run cpos pins s1 σ H1 _ I1 q1
  rw [hs] at hA ⊢
  refine Calls.callWith_builtin (by show (false || (backTo cpos (starEach es X.env)).any (·.1)) = false; rw [hplain] <;> rfl) (Calls.evalArgs_plain ?_)
  exact thn hA fun us s2 ⟨vs, H2, I2, r2, q2⟩ => hm pins s2 σ H2 x vs v us Q I2 r1 r2 q2
/-- d.get -/
def rGet (X : Cx) : V → List V → Hp → VK → Prop := fun x vs H Q => ∃ a lvs y l, x = .ref a ∧ H a = some (DicL X.prog X.w a lvs) ∧ leafV y = some l ∧ ((∃ z, vs = [y, z] ∧ Q ((valV lvs l).getD z) H) ∨ (vs = [y] ∧ Q ((valV lvs l).getD .non) H))
theorem mt_get : MtR X "dict.get" (rGet X) := by
  intro pins s σ H x vs v us Q I rx rv h
  obtain ⟨a, lvs, y, l, rfl, h1, hl, h⟩ := h
  cases (show v = Value.ref a from rx)
  rcases h with ⟨z, rfl, q⟩ | ⟨rfl, q⟩
  · obtain ⟨u1, u2, rfl, r1, r2⟩ := rv.two
    exact dl_get2 I h1 r1 hl r2 fun w' s' I' rw' => ⟨_, H, I', rw', q⟩
  · obtain ⟨u1, rfl, r1⟩ := rv.one
    exact dl_get1 I h1 r1 hl fun w' s' I' rw' => ⟨_, H, I', rw', q⟩
/-- xs.extend -/
def rExtendS : V → List V → Hp → VK → Prop := fun x vs H Q => ∃ l b xs zs, x = .ref l ∧ vs = [.ref b] ∧ H l = some (.lst xs) ∧ LstO H b zs ∧ xs.length + zs.length ≤ sizeLine ∧ Q .non (upd H l (.lst (xs ++ zs)))
theorem mt_extendS : MtR X "list.extend" rExtendS := by
  intro pins s σ H x vs v us Q I rx rv h
  obtain ⟨l, b, xs, zs, rfl, rfl, hH, hB, hz, q⟩ := h
  cases rx
  obtain ⟨u, rfl, ru⟩ := rv.one
  cases ru
  obtain ⟨z, its, n, r, hl, e⟩ := I.lstM hH
  obtain ⟨z2, its2, n2, r2, e2⟩ := Rd.ok (show Rd H b (.lst zs) from hB) I.hok
  have hl2 := r2.length
  have hsz : its.toArray.size + its2.toArray.size ≤ sizeLine := by rw [List.size_toArray, List.size_toArray]; omega
  have hlong : ¬ (!its.toArray.isEmpty && Builtin.List.listTooLong (its.toArray.size + its2.toArray.size)) = true := by
    rw [notLongL hsz, Bool.and_false]
    exact Bool.false_ne_true
  refine call_meets F.slot_list_extend ⟨_, e, rfl⟩ F.entry_list_extend (F.args_list_extend_2 _ _)
    (AutoSeq1.list_extend_list_list_0 l its.toArray n b its2.toArray n2 hlong (by rw [List.size_toArray]; omega) (by omega)) ⟨e, e2, ?_⟩
  refine ⟨.non, _, I.lset (its' := its ++ its2) hH e (by simp) (r.append r2) ?_, rfl, q⟩
  rw [List.length_append]
  omega
theorem few_of {es : Cs} {e : Expr} {xs : List Expr} (hns : noStar es = true) (hos : oks T X.N es X.env.scope (e :: xs) = true) (hl : (e :: xs).length < 29) : ((backTo pos (starEach (e :: xs) X.env)).all (fun x => !x.1) && (backToKw pos (keywordEach [] X.env)).all (fun x => x.1.isSome)
      && decide ((e :: xs).length + ([] : List Keyword).length + (if ([] : List Keyword).isEmpty then 0 else 1) < 30)) = true := by
  have z := stars_of hns hos pos X.env
  have a : (backTo pos (starEach (e :: xs) X.env)).all (fun x => !x.1) = true := by
    rw [List.all_eq_true]
    intro x hx
    have := List.any_eq_false.mp z x hx
    simpa using this
  rw [a]
  have : (backToKw pos (keywordEach [] X.env)).all (fun x => x.1.isSome) = true := rfl
  rw [this]
  simp only [Bool.true_and, decide_eq_true_eq]
  show (e :: xs).length + 0 + 0 < 30
  omega
theorem kind_list {m : M} {x : D} {h : Hs} (hm : m = .append ∨ m = .extend) (hk : kindM m x h = true) : ∃ n xs, x = .loc n ∧ h[n]? = some (.lst xs) := by
  cases x <;> first | (rcases hm with rfl | rfl <;> (simp only [kindM] at hk; cases hk); done) | skip
  rename_i n
  cases q : h[n]? with
  | none => rcases hm with rfl | rfl <;> simp [kindM, q] at hk
  | some o =>
    cases o with
    | lst xs => exact ⟨n, xs, rfl, q⟩
    | _ => rcases hm with rfl | rfl <;> simp [kindM, q] at hk
theorem callM_app {n : Nat} {ds : List D} {h : Hs} : callM (.loc n) .append ds h = .bad ∨ ∃ xs d, h[n]? = some (.lst xs) ∧ ds = [d] ∧ Nat.blt xs.length lim = true ∧ callM (.loc n) .append ds h = .ok .non (h.set n (.lst (xs ++ [d]))) := by
  rcases ds with _ | ⟨d, _ | ⟨_, _⟩⟩
  · left; simp [callM]
  · cases q : h[n]? with
    | none => left; simp [callM, q]
    | some o =>
      cases o with
      | lst xs =>
        cases hb : Nat.blt xs.length lim with
        | true => right; exact ⟨xs, d, rfl, rfl, hb, by simp [callM, q, hb]⟩
        | false => left; simp [callM, q, hb]
      | _ => left; simp [callM, q]
  · left; simp [callM]
theorem callM_ext {n : Nat} {ds : List D} {h : Hs} : callM (.loc n) .extend ds h = .bad ∨ ∃ xs d ys, h[n]? = some (.lst xs) ∧ ds = [d] ∧ lstI h d = some ys ∧ Nat.ble (xs.length + ys.length) lim = true ∧ callM (.loc n) .extend ds h = .ok .non (h.set n (.lst (xs ++ ys))) := by
  rcases ds with _ | ⟨d, _ | ⟨_, _⟩⟩
  · left; simp [callM]
  · cases q : h[n]? with
    | none => left; simp [callM, q]
    | some o =>
      cases o with
      | lst xs =>
        cases q2 : lstI h d with
        | none => left; simp [callM, q, q2]
        | some ys =>
          cases hb : Nat.ble (xs.length + ys.length) lim with
          | true => right; exact ⟨xs, d, ys, rfl, rfl, q2, hb, by simp [callM, q, q2, hb]⟩
          | false => left; simp [callM, q, q2, hb]
      | _ => left; simp [callM, q]
  · left; simp [callM]
theorem callM_get {o : D} {ds : List D} {h : Hs} : callM o .get ds h = .bad ∨ ∃ kvs a, dicI h o = some kvs ∧ flat a = true ∧ ((∃ b, ds = [a, b] ∧ callM o .get ds h = .ok ((kvFind a kvs).getD b) h) ∨ (ds = [a] ∧ callM o .get ds h = .ok ((kvFind a kvs).getD .non) h)) := by
  cases q : dicI h o with
  | none => left; simp [callM, q]
  | some kvs =>
    rcases ds with _ | ⟨d, _ | ⟨e, _ | ⟨_, _⟩⟩⟩
    · left; simp [callM, q]
    · cases hb : (flat d && flatK kvs) with
      | true => right; exact ⟨kvs, d, rfl, ((Bool.and_eq_true _ _).mp hb).1, .inr ⟨rfl, by simp [callM, q, (Bool.and_eq_true _ _).mp hb]⟩⟩
      | false => left; simp only [callM, q]; rw [hb]; rfl
    · cases hb : (flat d && flatK kvs) with
      | true => right; exact ⟨kvs, d, rfl, ((Bool.and_eq_true _ _).mp hb).1, .inl ⟨e, rfl, by simp [callM, q, (Bool.and_eq_true _ _).mp hb]⟩⟩
      | false => left; simp only [callM, q]; rw [hb]; rfl
    · left; simp [callM, q]
theorem sd_met {o : C} {m : M} {es : Cs} {v e : Expr} {xs : List Expr} (hok : Ok T E k X W) (hv : PE X v (tE (sy X) W E o)) (hbase : isCall0 v = false) (hns : noStar es = true) (hos : oks T X.N es X.env.scope (e :: xs) = true) (hline : (apos.endLine == pos.line) = true) (hl : (e :: xs).length < 29)
    (ha : PA X (e :: xs) (tA (sy X) W E es)) : PE X (.Call (.Attribute v (nameM m) apos) (e :: xs) [] pos) (tE (sy X) W E (.met o m es)) := by
  have hst : isStarE e = false := by
    cases es with
    | nil => simp only [oks] at hos; cases hos
    | cons c r => simp only [oks, Bool.and_eq_true, Bool.not_eq_true'] at hos; exact hos.1.1
    | star c r => simp only [noStar] at hns; cases hns
  have hany2 : (backTo pos (starEach xs X.env)).any (·.1) = false := by
    have z := stars_of hns hos pos X.env
    rw [starEach_no hst] at z
    exact z
  have hand : ∀ {σ : L2.St} {H : Hp} {Q : VK} (m : M) (Tn : String) (rr : V → List V → Hp → VK → Prop), tE (sy X) W E (.met o m es) σ H Q →
      (∀ {r1 : Rg} {H1 : Hp} {d1 : D} {h1 : Hs} {x : V}, RelH (sy X) r1 H1 h1 → RD (sy X) r1 H1 d1 x → kindM m d1 h1 = true → TyP X Tn x H1) →
      (∀ {r : Rg} {r1 r2 : Rg} {H1 H2 : Hp} {d1 : D} {h1 h2 : Hs} {x : V} {ds : List D} {ws : List V}, RelH (sy X) r1 H1 h1 → RD (sy X) r1 H1 d1 x → kindM m d1 h1 = true → Ext r H r1 H1 → Ext r1 H1 r2 H2 → RelH (sy X) r2 H2 h2 → RDs (sy X) r2 H2 ds ws →
        Post (sy X) (RD (sy X)) r H (fun cls d H' => W cls d σ H') (callM d1 m ds h2) Q → rr x ws H2 Q) → tBX X Tn rr (tE (sy X) W E o) (tA (sy X) W E es) σ H Q := fun m Tn rr ⟨r, L, hh, rl, rh, q⟩ f1 f2 => by
    refine ⟨r, L, hh, rl, rh, (bindS (rel := RD (sy X)) q (Ext.refl _ _)).imp fun x H1 ⟨r1, d1, h1, _, e1, R1, hx, q1⟩ => ?_⟩
    cases hk : kindM m d1 h1 with
    | false => rw [hk] at q1; exact q1.elim
    | true =>
      rw [hk] at q1
      exact ⟨f1 R1 hx hk, r1, L, h1, rl.mono e1, R1, (bindS (rel := RDs (sy X)) q1 e1).imp fun ws H2 ⟨r2, ds, h2, _, e2, R2, hw, q2⟩ => f2 R1 hx hk e1 e2 R2 hw q2⟩
  cases m with
  | append =>
    refine PE.imp (pe_bx (T := "list") (r := rAppend) F.plainAttrs_list F.slot_list_append F.type_list_append mt_append hv ha (base_of hbase) (few_of hns hos hl) hline (starEach_no hst) hany2) fun σ H Q q => hand .append "list" rAppend q (fun R1 hx hk => ?_) (fun {r r1 r2 H1 H2 d1 h1 h2 x ds ws} R1 hx hk e1 e2 R2 hw q2 => ?_)
    · obtain ⟨n, xs, rfl, hq⟩ := kind_list (.inl rfl) hk
      obtain ⟨a, rfl, ha1⟩ := hx.loc_inv
      obtain ⟨vs, g1, g2⟩ := R1.lst hq ha1
      exact tyP_list (SqL.of g1)
    · obtain ⟨n, xs, rfl, hq⟩ := kind_list (.inl rfl) hk
      obtain ⟨a, rfl, ha1⟩ := hx.loc_inv
      rcases callM_app (n := n) (ds := ds) (h := h2) with e | ⟨zs, d, hz, rfl, hlim, e⟩
      · rw [e] at q2; exact q2.elim
      · rw [e] at q2
        obtain ⟨w, rfl, hwd⟩ := one_V hw
        have ha2 := e2.get ha1
        obtain ⟨us, g3, g4⟩ := R2.lst hz ha2
        refine ⟨a, us, w, rfl, rfl, g3, by rw [g4.length]; exact blt_lim hlim, ?_⟩
        have ex := Ext.write (r := r2) (H := H2) (u := .lst (us ++ [w])) (List.mem_of_getElem? ha2)
        exact q2 r2 _ .non (e1.trans (e2.trans ex)) (R2.write ha2 ⟨us ++ [w], upd_same, (g4.mono ex).append (RDs.cons (hwd.mono ex) RDs.nil)⟩) RD.non'
  | extend =>
    refine PE.imp (pe_bx (T := "list") (r := rExtendS) F.plainAttrs_list F.slot_list_extend F.type_list_extend mt_extendS hv ha (base_of hbase) (few_of hns hos hl) hline (starEach_no hst) hany2) fun σ H Q q => hand .extend "list" rExtendS q (fun R1 hx hk => ?_) (fun {r r1 r2 H1 H2 d1 h1 h2 x ds ws} R1 hx hk e1 e2 R2 hw q2 => ?_)
    · obtain ⟨n, xs, rfl, hq⟩ := kind_list (.inr rfl) hk
      obtain ⟨a, rfl, ha1⟩ := hx.loc_inv
      obtain ⟨vs, g1, g2⟩ := R1.lst hq ha1
      exact tyP_list (SqL.of g1)
    · obtain ⟨n, xs, rfl, hq⟩ := kind_list (.inr rfl) hk
      obtain ⟨a, rfl, ha1⟩ := hx.loc_inv
      rcases callM_ext (n := n) (ds := ds) (h := h2) with e | ⟨zs, d, ys, hz, rfl, hy, hlim, e⟩
      · rw [e] at q2; exact q2.elim
      · rw [e] at q2
        obtain ⟨w, rfl, hwd⟩ := one_V hw
        obtain ⟨b, bs, rfl, g5, g6⟩ := R2.lstI hwd hy
        have ha2 := e2.get ha1
        obtain ⟨us, g3, g4⟩ := R2.lst hz ha2
        refine ⟨a, b, us, bs, rfl, rfl, g3, g5, by rw [g4.length, g6.length]; exact ble_lim hlim, ?_⟩
        have ex := Ext.write (r := r2) (H := H2) (u := .lst (us ++ bs)) (List.mem_of_getElem? ha2)
        exact q2 r2 _ .non (e1.trans (e2.trans ex)) (R2.write ha2 ⟨us ++ bs, upd_same, (g4.mono ex).append (g6.mono ex)⟩) RD.non'
  | get =>
    refine PE.imp (pe_bx (T := "dict") (r := rGet X) F.plainAttrs_dict F.slot_dict_get F.type_dict_get mt_get hv ha (base_of hbase) (few_of hns hos hl) hline (starEach_no hst) hany2) fun σ H Q q => hand .get "dict" (rGet X) q (fun {r1 H1 d1 h1 x} R1 hx hk => ?_) (fun {r r1 r2 H1 H2 d1 h1 h2 x ds ws} R1 hx hk e1 e2 R2 hw q2 => ?_)
    · have hk : (dicI h1 d1).isSome = true := hk
      obtain ⟨kvs, hq⟩ := Option.isSome_iff_exists.mp hk
      obtain ⟨a, lvs, rfl, g1, g2, g3⟩ := R1.dicI hx hq
      exact tyP_dict g1
    · have getd : ∀ {kvs : List (D × D)} {lvs : List (PySem.Leaf × V)} {y : D} {l : PySem.Leaf} {b : D} {w : V}, leafOf y = some l → leafK kvs = lvs.map (fun q => some q.1) → RDs (sy X) r2 H2 (kvs.map (·.2)) (lvs.map (·.2)) → RD (sy X) r2 H2 b w → RD (sy X) r2 H2 ((kvFind y kvs).getD b) ((valV lvs l).getD w) := fun {kvs lvs y l b w} hl g2 g3 hb => by
        obtain ⟨i1, i2, _⟩ := kv_find hl g2 g3
        cases e : kvFind y kvs with
        | none => rw [i2 e]; exact hb
        | some d => obtain ⟨v, z1, z2⟩ := i1 d e; rw [z1]; exact z2
      rcases callM_get (o := d1) (ds := ds) (h := h2) with e | ⟨kvs2, y, hz, hf, ⟨b, rfl, e⟩ | ⟨rfl, e⟩⟩
      · rw [e] at q2; exact q2.elim
      · rw [e] at q2
        obtain ⟨w1, w2, rfl, hy, hb⟩ := two_V hw
        obtain ⟨a, lvs, rfl, g1, g2, g3⟩ := R2.dicI (hx.mono e2) hz
        obtain ⟨l, hl⟩ := flat_leaf hf
        exact ⟨a, lvs, w1, l, rfl, g1, leaf_V hy hl, .inl ⟨w2, rfl, q2 r2 H2 _ (e1.trans e2) R2 (getd hl g2 g3 hb)⟩⟩
      · rw [e] at q2
        obtain ⟨w1, rfl, hy⟩ := one_V hw
        obtain ⟨a, lvs, rfl, g1, g2, g3⟩ := R2.dicI (hx.mono e2) hz
        obtain ⟨l, hl⟩ := flat_leaf hf
        exact ⟨a, lvs, w1, l, rfl, g1, leaf_V hy hl, .inr ⟨rfl, q2 r2 H2 _ (e1.trans e2) R2 (getd hl g2 g3 RD.non')⟩⟩
end
end EV

set_option Elab.async false
set_option linter.all false
set_option maxRecDepth 100000
set_option maxHeartbeats 4000000
/-! EV 13: dicts, iterators, tests. -/
namespace EV
open PySem PySem.Spec PyProof.Rows L2

section
variable {T : Tab} {E : Ev} {k : Nat} {X : Cx} {W : WX} {pos p apos mpos : Pos}
theorem sd_dnew : PE X (.Dict [] [] pos) (tE (sy X) W E .dnew) := by
  refine PE.imp pe_dnewL fun σ H Q ⟨r, L, hh, rl, rh, q⟩ a na => ?_
  have q : Post (sy X) (RD (sy X)) r H (fun cls d H' => W cls d σ H') (.ok (.loc hh.length) (hh ++ [.dic []])) Q := q
  refine q (r.add a) _ _ (Ext.growT na) (rh.growT na ⟨[], upd_same, rfl, RDs.nil⟩) ?_
  simp only [RD]
  exact ⟨a, rfl, rh.last⟩
theorem sd_dvals {o : C} {v : Expr} (hok : Ok T E k X W) (hg : glB X.env.scope "list" = true) (hv : PE X v (tE (sy X) W E o)) (hbase : isCall0 v = false) (hline : (apos.endLine == mpos.line) = true) :
    PE X (.Call (.Name "list" p) [.Call (.Attribute v "values" apos) [] [] mpos] [] pos) (tE (sy X) W E (.dvals o)) := by
  obtain ⟨g1, g2⟩ := glB_ok hg
  refine ⟨fun pins s σ H Q I ⟨r, L, hh, rl, rh, q⟩ => ?_⟩
  refine wpAny_Call_Name_kw (ld_blt I g1 (hok.blt .list) (u := .type "list") (by decide +kernel) ?_ (by decide +kernel) (by decide +kernel))
  refine PySem.callWith_type1 (wpAny_Call_method0_late (base_of hbase) hline (thn (hv.run pins s σ H _ I ⟨r, L, hh, rl, rh, bindS (rel := RD (sy X)) q (Ext.refl _ _)⟩) fun u s1 ⟨x, H1, I1, r1, hx⟩ => ?_))
  obtain ⟨r2, d1, h1, _, e1, R1, hx, q1⟩ := hx
  try dsimp only at q1
  split at q1
  · rename_i kvs hq
    obtain ⟨a, lvs, rfl, g3, g4, g5⟩ := R1.dicI hx hq
    cases (show u = Value.ref a from r1)
    obtain ⟨t1, t2⟩ := dl_at I1 g3
    refine ⟨"dict", "dict.values", F.plainAttrs_dict, F.slot_dict_values, F.type_dict_values, t1, t2, Calls.callWith_builtin rfl (PySem.evalArgs_none ?_)⟩
    refine dl_vals hok.calm I1 g3 fun b nb => ?_
    exact ((q1.shift e1).pok noX_ok).lstF R1 g5 b nb
  · exact q1.elim

/-! ### iterators -/
def iSeq (K : PySem.W.Frag) (tl : TE) : TI := fun σ H R => tl σ H fun x H1 => ∃ a, x = .ref a ∧ (((∃ xs, SqL K H1 a xs) ∧ R (Itl K a) H1) ∨ ((∃ xs, SqT K H1 a xs) ∧ R (Itt K a) H1))
theorem pi_seq {tg l : Expr} {tl : TE} (hl : PE X l tl) : PI X tg l (iSeq X.K tl) := by
  refine ⟨fun pins s σ H R I h => ?_⟩
  refine thn (hl.run pins s σ H _ I h) fun v s1 ⟨x, H1, I1, r1, q1⟩ => ?_
  obtain ⟨a, e, q1⟩ := q1
  subst e
  cases r1
  rcases q1 with ⟨⟨xs, hq⟩, q⟩ | ⟨⟨xs, hq⟩, q⟩
  · obtain ⟨its, rv, p, hz⟩ := I1.list hq
    refine wpAny_pyIter_list p.isList ?_
    refine ⟨s1.heap.objs.size, [s1.heap.objs.size], _, _, H1, rfl, I1.kept (t' := s1.toks) fun b o e => Heap.get?_push_of_some _ e, turn_list a _, ⟨_, Heap.get?_push_size _ rfl, rfl, rfl⟩, fun b hb => ?_, q⟩
    have e : b = s1.heap.objs.size := by simpa using hb
    subst e
    exact I1.fpOk (Nat.le_refl _) (I1.hok.fresh (Nat.le_refl _))
  · obtain ⟨its, rv, p, hz⟩ := I1.tuple hq
    refine wpAny_pyIter_tuple (show s1.heap.IsTuple a its.toArray from p) ?_
    refine ⟨s1.heap.objs.size, [s1.heap.objs.size], _, _, H1, rfl, I1.kept (t' := s1.toks) fun b o e => Heap.get?_push_of_some _ e, turn_tuple a _, ⟨_, Heap.get?_push_size _ rfl, rfl, rfl⟩, fun b hb => ?_, q⟩
    have e : b = s1.heap.objs.size := by simpa using hb
    subst e
    exact I1.fpOk (Nat.le_refl _) (I1.hok.fresh (Nat.le_refl _))
/-- what srcOf gives -/
theorem src_ok {r r1 : Rg} {H H1 : Hp} {h1 : Hs} {d1 : D} {x : V} {f : List D → List D} {W' : XK} {Q : L2.It → Hp → Prop} {Jt Jl : Addr → L2.It} (e1 : Ext r H r1 H1) (R1 : RelH (sy X) r1 H1 h1) (hx : RD (sy X) r1 H1 d1 x)
    (jt : ∀ {r : Rg} {H : Hp} {xs : List D} {a : Addr} {vs : List V}, TupAt X.K r H a vs → RDs (sy X) r H xs vs → RI (sy X) r H ⟨f xs, []⟩ (Jt a)) (jl : ∀ {r : Rg} {H : Hp} {g : List (Nat × List D)} {xs : List D} {a : Addr}, LstG (sy X) r H g xs a → RI (sy X) r H ⟨f xs, g⟩ (Jl a))
    (q1 : Post (sy X) (RI (sy X)) r H W' (srcOf d1 h1 f) Q) : ∃ a xs, x = .ref a ∧ ((SqL X.K H1 a xs ∧ Q (Jl a) H1) ∨ (SqT X.K H1 a xs ∧ Q (Jt a) H1)) := by
  unfold srcOf at q1
  have lst : Post (sy X) (RI (sy X)) r H W' (match lstI h1 d1 with
      | some xs => .ok ⟨f xs, grd d1 xs⟩ h1
      | none => .bad) Q → ∃ a xs, x = .ref a ∧ ((SqL X.K H1 a xs ∧ Q (Jl a) H1) ∨ (SqT X.K H1 a xs ∧ Q (Jt a) H1)) := fun q1 => by
    split at q1
    · rename_i xs hp
      obtain ⟨a, vs, rfl, h2, h3⟩ := lstG_of R1 hx hp
      exact ⟨a, vs, rfl, .inl ⟨h2, q1 r1 H1 _ e1 R1 (jl h3)⟩⟩
    · exact q1.elim
  cases d1 with
  | tup ds =>
    obtain ⟨a, vs, rfl, ht, hr⟩ := hx.tup_inv
    exact ⟨a, vs, rfl, .inr ⟨ht.sq, q1 r1 H1 _ e1 R1 (jt ht hr)⟩⟩
  | _ => exact lst q1
theorem si_of {c : C} {tg e : Expr} (he : PE X e (tE (sy X) W E c)) : PI X tg e (tI (sy X) W E (.of c)) := by
  refine PI.imp (pi_seq he) fun σ H Q ⟨r, L, hh, rl, rh, q⟩ => ?_
  refine ⟨r, L, hh, rl, rh, (bindS (rel := RD (sy X)) q (Ext.refl _ _)).imp fun x H1 ⟨r1, d1, h1, _, e1, R1, hx, q1⟩ => ?_⟩
  obtain ⟨a, xs, rfl, z⟩ := src_ok e1 R1 hx (f := fun xs => xs) (Jt := Itt X.K) (Jl := Itl X.K) itt_ok itl_ok q1
  exact ⟨a, rfl, z.elim (fun z => .inl ⟨⟨xs, z.1⟩, z.2⟩) fun z => .inr ⟨⟨xs, z.1⟩, z.2⟩⟩
theorem small_ok {i : Int} (h : small i = true) : -(2 ^ 62) ≤ i ∧ i < 2 ^ 62 := by
  unfold small at h
  rw [Bool.and_eq_true] at h
  exact ⟨of_decide_eq_true h.1, of_decide_eq_true h.2⟩
theorem si_rng {cs : Cs} {tg y : Expr} {xs : List Expr} (hok : Ok T E k X W) (hg : glB X.env.scope "range" = true) (hns : noStar cs = true) (hos : oks T X.N cs X.env.scope (y :: xs) = true) (hl : (y :: xs).length ≤ 2) (ha : PA X (y :: xs) (tA (sy X) W E cs)) :
    PI X tg (.Call (.Name "range" p) (y :: xs) [] pos) (tI (sy X) W E (.rng cs)) := by
  obtain ⟨g1, g2⟩ := glB_ok hg
  have hst : isStarE y = false := by
    cases cs with
    | nil => simp only [oks] at hos; cases hos
    | cons c r => simp only [oks, Bool.and_eq_true, Bool.not_eq_true'] at hos; exact hos.1.1
    | star c r => simp only [noStar] at hns; cases hns
  have one : ∀ {σ : L2.St} {H : Hp} {Q : L2.It → Hp → Prop}, tI (sy X) W E (.rng cs) σ H Q → tA (sy X) W E cs σ H fun vs H1 => ∃ r r1 ds h1, Ext r H r1 H1 ∧ RelH (sy X) r1 H1 h1 ∧ RDs (sy X) r1 H1 ds vs ∧ Post (sy X) (RI (sy X)) r H (fun cls d H' => W cls d σ H') (rngOf ds h1) Q := fun {σ H Q} ⟨r, L, hh, rl, rh, q⟩ =>
    ⟨r, L, hh, rl, rh, (bindS (rel := RDs (sy X)) q (Ext.refl _ _)).imp fun vs H1 ⟨r1, ds, h1, _, e1, R1, hx, q1⟩ => ⟨r, r1, ds, h1, e1, R1, hx, q1⟩⟩
  cases xs with
  | nil =>
    refine PI.imp (pi_range1 g1 hok.rng ha (starEach_no hst)) fun σ H Q q => ?_
    obtain ⟨r0, L, hh, rl, rh, q⟩ := q
    have hlen : lenCs cs = 1 := by rw [← oks_len hos]; rfl
    refine ⟨r0, L, hh, rl, rh, (bindS (rel := RDs (sy X)) q (Ext.refl _ _)).imp fun vs H1 ⟨r1, ds, h1, eq1, e1, R1, hx, q1⟩ => ?_⟩
    have hdl := exs_len hns eq1
    rw [hlen] at hdl
    rcases ds with _ | ⟨d, _ | ⟨_, _⟩⟩
    · cases hdl
    · obtain ⟨v, rfl, hv⟩ := one_V hx
      cases d with
      | int j =>
        simp only [rngOf] at q1
        split at q1
        · rename_i hs
          obtain ⟨s1, s2⟩ := small_ok hs
          exact ⟨j, by rw [hv.int_inv], s1, s2, q1 r1 H1 _ e1 R1 itr_ok⟩
        · exact q1.elim
      | _ => exact q1.elim
    · simp at hdl
  | cons z zs =>
    cases zs with
    | cons a b => simp at hl
    | nil =>
      have hst2 : isStarE z = false := by
        cases cs with
        | nil => simp only [oks] at hos; cases hos
        | cons c r =>
          simp only [oks, Bool.and_eq_true, Bool.not_eq_true'] at hos
          cases r with
          | nil => simp only [oks] at hos; cases hos.2
          | cons c2 r2 => simp only [oks, Bool.and_eq_true, Bool.not_eq_true'] at hos; exact hos.2.1.1
          | star c2 r2 => simp only [noStar] at hns; cases hns
        | star c r => simp only [noStar] at hns; cases hns
      refine PI.imp (pi_range2 g1 hok.rng ha (by rw [starEach_no hst, starEach_no hst2]; rfl) (starEach_no hst2)) fun σ H Q q => ?_
      obtain ⟨r0, L, hh, rl, rh, q⟩ := q
      have hlen : lenCs cs = 2 := by rw [← oks_len hos]; rfl
      refine ⟨r0, L, hh, rl, rh, (bindS (rel := RDs (sy X)) q (Ext.refl _ _)).imp fun vs H1 ⟨r1, ds, h1, eq1, e1, R1, hx, q1⟩ => ?_⟩
      have hdl := exs_len hns eq1
      rw [hlen] at hdl
      rcases ds with _ | ⟨d, _ | ⟨d2, _ | ⟨_, _⟩⟩⟩
      · simp at hdl
      · simp at hdl
      · obtain ⟨v, u, rfl, hv, hu⟩ := two_V hx
        cases d with
        | int i => cases d2 with
          | int j =>
            simp only [rngOf] at q1
            split at q1
            · rename_i hs
              rw [Bool.and_eq_true] at hs
              obtain ⟨s1, s2⟩ := small_ok hs.1
              obtain ⟨s3, s4⟩ := small_ok hs.2
              exact ⟨i, j, by rw [hv.int_inv, hu.int_inv], ⟨s1, s2, s3, s4⟩, q1 r1 H1 _ e1 R1 itr_ok⟩
            · exact q1.elim
          | _ => exact q1.elim
        | _ => exact q1.elim
      · simp at hdl
theorem si_enum {c : C} {elts : List Expr} {kk : Nat} {tpos : Pos} {y : Expr} (hok : Ok T E k X W) (hg : glB X.env.scope "enumerate" = true) (hst : isStarE y = false) (he : PE X y (tE (sy X) W E c)) :
    PI X (.Tuple elts kk tpos) (.Call (.Name "enumerate" p) [y] [] pos) (tI (sy X) W E (.enum c)) := by
  obtain ⟨g1, g2⟩ := glB_ok hg
  refine PI.imp (pi_enumA g1 hok.enu (sa_cons (W := W) (E := E) (c := c) (cs := .nil) hst he sa_nil) (starEach_no hst)) fun σ H Q ⟨r, L, hh, rl, rh, q⟩ => ?_
  refine ⟨r, L, hh, rl, rh, ?_⟩
  have q : Post (sy X) (RI (sy X)) r H (fun cls d H' => W cls d σ H') ((ex E c false L hh).bind fun d h' => srcOf d h' (enumD 0)) Q := q
  show Post (sy X) (RDs (sy X)) r H _ ((ex E c false L hh).bind fun x h => (exs E .nil L h).bind fun xs h => .ok (x :: xs) h) _
  cases ec : ex E c false L hh with
  | bad => rw [ec] at q; exact q.elim
  | exc c x h => rw [ec] at q; exact q
  | ok d h' =>
    rw [ec] at q
    intro r1 H1 vs e1 R1 hx
    obtain ⟨v, rfl, hv⟩ := one_V hx
    obtain ⟨a, xs, rfl, z⟩ := src_ok e1 R1 hv (f := enumD 0) (Jt := IteT X.K) (Jl := Ite X.K) ite_ok itel_ok q
    exact ⟨a, xs, rfl, z.symm⟩
theorem si_zip {a b : C} {elts : List Expr} {kk : Nat} {tpos : Pos} {y z : Expr} (hok : Ok T E k X W) (hg : glB X.env.scope "zip" = true) (hst : isStarE y = false) (hst2 : isStarE z = false) (ha : PE X y (tE (sy X) W E a)) (hb : PE X z (tE (sy X) W E b)) :
    PI X (.Tuple elts kk tpos) (.Call (.Name "zip" p) [y, z] [] pos) (tI (sy X) W E (.zip a b)) := by
  obtain ⟨g1, g2⟩ := glB_ok hg
  refine PI.imp (RZ.pi_zipA g1 hok.zip (sa_cons (W := W) (E := E) (c := a) (cs := .cons b .nil) hst ha (sa_cons hst2 hb sa_nil)) (starEach_no hst) (by rw [starEach_no hst2]; rfl)) fun σ H Q ⟨r, L, hh, rl, rh, q⟩ => ?_
  refine ⟨r, L, hh, rl, rh, ?_⟩
  have q : Post (sy X) (RI (sy X)) r H (fun cls d H' => W cls d σ H') ((ex E a false L hh).bind fun x h => (ex E b false L h).bind fun y h => zipOf x y h) Q := q
  show Post (sy X) (RDs (sy X)) r H _ ((ex E a false L hh).bind fun x h => ((ex E b false L h).bind fun x h => (exs E .nil L h).bind fun xs h => .ok (x :: xs) h).bind fun xs h => .ok (x :: xs) h) _
  cases ec : ex E a false L hh with
  | bad => rw [ec] at q; exact q.elim
  | exc c x h => rw [ec] at q; exact q
  | ok d h' =>
    rw [ec] at q
    simp only [R.bind] at q ⊢
    cases ed : ex E b false L h' with
    | bad => rw [ed] at q; exact q.elim
    | exc c x h => rw [ed] at q; exact q
    | ok d2 h2 =>
      rw [ed] at q
      simp only [R.bind, exs] at q ⊢
      intro r1 H1 vs e1 R1 hx
      obtain ⟨v, u, rfl, hv, hu⟩ := two_V hx
      unfold zipOf at q
      split at q
      · obtain ⟨a1, us, rfl, ht, hr⟩ := hv.tup_inv
        obtain ⟨a2, us2, rfl, ht2, hr2⟩ := hu.tup_inv
        exact ⟨a1, a2, us, us2, rfl, .inr ⟨ht.sq, ht2.sq, q r1 H1 _ e1 R1 (itz_ok ht hr ht2 hr2)⟩⟩
      · split at q
        · rename_i xs ys hm hn
          obtain ⟨a1, us, rfl, k1, k2⟩ := lstG_of R1 hv hm
          obtain ⟨a2, us2, rfl, k3, k4⟩ := lstG_of R1 hu hn
          exact ⟨a1, a2, us, us2, rfl, .inl ⟨k1, k3, q r1 H1 _ e1 R1 (itzl_ok k2 k4)⟩⟩
        · exact q.elim
/-! ### tests -/
theorem sf_nil : PTs X [] (tAs (sy X) W E .nil) := ⟨fun pins s σ H Q I ⟨r, L, hh, rl, rh, q⟩ => pts_nil.run pins s σ H Q I (q r H true (Ext.refl _ _) rh rfl)⟩
theorem sf_one {c : C} {e : Expr} (h : PT X e (tT (sy X) W E c)) : PTs X [e] (tAs (sy X) W E (.cons c .nil)) := ⟨fun pins s σ H Q I ⟨r, L, hh, rl, rh, q⟩ => (pts_one h).run pins s σ H Q I ⟨r, L, hh, rl, rh, by
  have q : Post (sy X) (fun _ _ (a b : Bool) => a = b) r H (fun cls d H' => W cls d σ H') ((asB (ex E c true L hh)).bind fun c h => if c then (.ok true h : R Bool) else .ok false h) Q := q
  refine (asB_post q (Ext.refl _ _)).imp fun b H1 ⟨r1, h1, e1, R1, q1⟩ => ?_
  cases b <;> exact q1 r1 H1 _ e1 R1 rfl⟩⟩
theorem st_ife {c a b : C} {x y z : Expr} (hc : PT X x (tT (sy X) W E c)) (ha : PT X y (tT (sy X) W E a)) (hb : PT X z (tT (sy X) W E b)) : PT X (.IfExp x y z pos) (tT (sy X) W E (.ife c a b)) := by
  refine ⟨fun pins s σ H Q I ⟨r, L, hh, rl, rh, q⟩ => ?_⟩
  show wpAny (model X.prog X.w) X.A (do if ← isTrue x X.env (eval x X.env) then isTrue y X.env (eval y X.env) else isTrue z X.env (eval z X.env)) (TP X pins σ Q) X.xe s
  refine wpAny_bind (wpAny_mono (hc.run pins s σ H _ I ⟨r, L, hh, rl, rh, asB_post q (Ext.refl _ _)⟩) (fun b s1 ⟨H1, I1, r1, h1, e1, R1, q1⟩ => ?_) fun _ _ x => x)
  cases b with
  | true => exact ha.run pins s1 σ H1 Q I1 ⟨r1, L, h1, rl.mono e1, R1, Post.shift q1 e1⟩
  | false => exact hb.run pins s1 σ H1 Q I1 ⟨r1, L, h1, rl.mono e1, R1, Post.shift q1 e1⟩
end
end EV

set_option Elab.async false
set_option linter.all false
set_option maxRecDepth 100000
set_option maxHeartbeats 4000000
/-! EV A: instances: attributes, making, len, in, isinstance. -/
namespace EV
open PySem PySem.Spec PyProof.Rows L2

section
variable {Y : Sy} {r r2 : Rg} {H H2 : Hp} {h h2 : Hs}
theorem zip_keys {α : Type} : ∀ {ns : List Str} {ds : List α}, ns.length = ds.length → (ns.zip ds).map (·.1) = ns ∧ (ns.zip ds).map (·.2) = ds
  | [], [], _ => ⟨rfl, rfl⟩
  | [], _ :: _, e => by cases e
  | _ :: _, [], e => by cases e
  | n :: ns, d :: ds, e => by
    obtain ⟨h1, h2⟩ := zip_keys (ns := ns) (ds := ds) (by simpa using e)
    simp [h1, h2]
/-- an instance -/
theorem RelH.objI (R : RelH Y r H h) {d : D} {v : V} {c : Str} {fs : List (Str × D)} (hv : RD Y r H d v) (e : EV.objI h d = some (c, fs)) :
    ∃ (a C dx : Addr) (vs : List (Str × V)), v = .ref a ∧ H a = some (.ins C dx vs) ∧ Y.mg c = some (.ref C) ∧ vs.map (·.1) = fs.map (·.1) ∧ RDs Y r H (fs.map (·.2)) (vs.map (·.2)) := by
  cases d with
  | obj c' ns ds =>
    simp only [EV.objI, Option.some.injEq, Prod.mk.injEq] at e
    obtain ⟨rfl, rfl⟩ := e
    obtain ⟨a, C, dx, vs, h1, h2, h3, h4, h5⟩ := hv.obj_inv
    have hl : ns.length = ds.length := by
      rw [← h4, List.length_map, ← h5.length, List.length_map]
    obtain ⟨z1, z2⟩ := zip_keys (ns := ns) (ds := ds) hl
    exact ⟨a, C, dx, vs, h1, h2.1, h3, h4.trans z1.symm, by rw [z2]; exact h5⟩
  | loc n =>
    simp only [EV.objI] at e
    split at e
    · rename_i c' fs' q
      cases e
      obtain ⟨a, rfl, ha⟩ := hv.loc_inv
      obtain ⟨C, dx, vs, h1, h2, h3, h4⟩ := R.obj n _ a q ha
      exact ⟨a, C, dx, vs, rfl, h1, h2, h3, h4⟩
    · cases e
  | _ => simp only [EV.objI] at e; cases e
theorem fld_get : ∀ {fs : List (Str × D)} {vs : List (Str × V)} {f : Str} {d : D}, vs.map (·.1) = fs.map (·.1) → RDs Y r H (fs.map (·.2)) (vs.map (·.2)) → fs.lookup f = some d → ∃ v, vs.lookup f = some v ∧ RD Y r H d v
  | [], _, _, _, _, _, e => nomatch e
  | (g, x) :: fs, [], _, _, k, _, _ => by simp at k
  | (g, x) :: fs, (g', y) :: vs, f, d, k, hr, e => by
    simp only [List.map_cons, List.cons.injEq] at k
    obtain ⟨rfl, k⟩ := k
    obtain ⟨v, t, e1, h1, h2⟩ := RDs.cons_inv (by simpa only [List.map_cons] using hr)
    simp only [List.map_cons, List.cons.injEq] at e1
    obtain ⟨rfl, rfl⟩ := e1
    rw [List.lookup_cons] at e ⊢
    cases q : (f == g') with
    | true =>
      rw [q] at e
      cases e
      exact ⟨y, rfl, h1⟩
    | false =>
      rw [q] at e
      exact fld_get k h2 e
end
theorem insOf_mem {E : Ev} {c : Str} {cl : Cl} (e : insOf E c = some cl) : cl ∈ E.cs ∧ cl.exc = false ∧ cl.nm = c := by
  unfold insOf at e
  split at e
  · rename_i cl' q
    split at e
    · cases e
    · rename_i z
      cases e
      refine ⟨List.mem_of_find?_eq_some q, ?_, ?_⟩
      · cases hz : cl.exc with
        | true => exact absurd hz z
        | false => rfl
      · have := List.find?_some q
        exact of_decide_eq_true this
  · cases e
theorem strip_post {α β : Type} {Y : Sy} {rel : Rg → Hp → α → β → Prop} {r : Rg} {H : Hp} {W W' : XK} {res : R α} {Q : β → Hp → Prop} (p : Post Y rel r H W (strip res) Q) : Post Y rel r H W' res Q := by
  cases res with
  | ok a h => exact p
  | exc c x h => exact p.elim
  | bad => exact p
section
variable {T : Tab} {E : Ev} {k : Nat} {X : Cx} {W : WX} {pos p : Pos}
theorem passes0 : Passes (CX X.prog X.w) X.nox (fun _ _ _ => False) := fun _ _ _ _ _ _ _ ⟨_, _, _, _, _, _, _, _, _, _, _, _, hE⟩ => hE.elim
theorem sd_att {c : C} {v : Expr} {f : Str} (o : Ok T E k X W) (hv : PE X v (tE (sy X) W E c)) (hbase : isCall0 v = false) : PE X (.Attribute v f pos) (tE (sy X) W E (.att c f)) := by
  refine ⟨fun pins s σ H Q I ⟨r, L, hh, rl, rh, q⟩ => ?_⟩
  refine attr_of (base_of hbase) (thn (hv.run pins s σ H (fun x H1 => ∃ r1 d1 h1, Ext r H r1 H1 ∧ RelH (sy X) r1 H1 h1 ∧ RD (sy X) r1 H1 d1 x ∧ Post (sy X) (RD (sy X)) r H (fun cls d H' => W cls d σ H') (getA E d1 f h1) Q) I
    ⟨r, L, hh, rl, rh, (bindS (rel := RD (sy X)) q (Ext.refl _ _)).imp fun x H1 ⟨r1, d1, h1, _, e1, R1, hx, q1⟩ => ⟨r1, d1, h1, e1, R1, hx, q1⟩⟩) fun u s1 ⟨x, H1, I1, rx, r1, d1, h1, e1, R1, hx, q1⟩ => ?_)
  unfold getA at q1
  split at q1
  · rename_i c' fs eo
    obtain ⟨a, C, dx, vs, rfl, ha, hC, hk, hr⟩ := R1.objI hx eo
    obtain rfl : u = Value.ref a := rx
    split at q1
    · rename_i cl ec
      obtain ⟨m1, m2, rfl⟩ := insOf_mem ec
      have co := o.cls cl m1 m2 C hC
      split at q1
      · rename_i g eg
        split at q1
        · exact q1.elim
        · rename_i hab
          obtain ⟨pa, b, fd, ps, hp, F, hb⟩ := co.prp f g eg (by simpa using hab)
          refine getprop_ok I1 ha co.ck.cls hp F o.room hb .nil passes0 ?_
          exact callP_post e1 R1 (RDs.cons hx RDs.nil) (strip_post q1)
      · split at q1
        · rename_i hf
          cases el : fs.lookup f with
          | none => rw [el] at q1; exact q1.elim
          | some d =>
            rw [el] at q1
            obtain ⟨y, l1, l2⟩ := fld_get hk hr el
            exact getattr_ok I1 ha co.ck.cls (co.ck.fld f (by simpa using hf)) l1 fun u' s2 I2 ru => ⟨y, H1, I2, ru, q1 r1 H1 y e1 R1 l2⟩
        · exact q1.elim
    · exact q1.elim
  · exact q1.elim
/-! ### a call of a known thing by its name -/
/-- what a call with n values and the keywords kn asks -/
def CRk (X : Cx) (f : Addr) (kn : List Str) (Kd : List V → List V → L2.St → Hp → VK → Prop) : Prop :=
  ∀ (pins : List (Addr × Obj)) (σ : L2.St) (H : Hp) (s : Shared) (Q : VK) (us ws : List Value) (vs zs : List V), Inv X pins σ H s → Vals vs us → Vals zs ws → zs.length = kn.length → Kd vs zs σ H Q → wpAny (model X.prog X.w) X.A (call (.ref f) us (kn.zip ws)) (EP X pins σ Q) X.xe s
theorem sd_cr {f : Addr} {kn : List Str} {Kd : List V → List V → L2.St → Hp → VK → Prop} {fD : List D → List D → Hs → R D} {es ks : Cs} {x : Str} {xs : List Expr} {kws : List Keyword} (cr : CRk X f kn Kd) (hg : glB X.env.scope x = true) (m1 : X.mg x = some (.ref f)) (m2 : PySem.W.keepIn X.K (.ref f) = true)
    (hkn : kws.map (·.arg) = kn.map some) (hns : noStar es = true) (hos : oks T X.N es X.env.scope xs = true) (hxk : (!xs.isEmpty || kws.isEmpty) = true) (hok : okK T X.N ks X.env.scope kws = true) (ha : PA X xs (tA (sy X) W E es)) (hk : PK X kws (tA (sy X) W E ks))
    (hK : ∀ {r H σ Q r2 H2 h2 ds zs vs us}, Ext r H r2 H2 → RelH (sy X) r2 H2 h2 → RDs (sy X) r2 H2 ds vs → RDs (sy X) r2 H2 zs us → ds.length = lenCs es → zs.length = kn.length → Post (sy X) (RD (sy X)) r H (fun cls d H' => W cls d σ H') (fD ds zs h2) Q → Kd vs us σ H2 Q) :
    PE X (.Call (.Name x p) xs kws pos) (fun σ H Q => ∃ r L h, RelL (sy X) r H σ L ∧ RelH (sy X) r H h ∧ Post (sy X) (RD (sy X)) r H (fun cls d H' => W cls d σ H') ((exs E es L h).bind fun ds h => (exs E ks L h).bind fun zs h => fD ds zs h) Q) := by
  obtain ⟨g1, g2⟩ := glB_ok hg
  have nokw : kws = [] → kn = [] ∧ ks = .nil := fun e => by
    subst e
    refine ⟨?_, ?_⟩
    · cases kn with
      | nil => rfl
      | cons a b => simp at hkn
    · cases ks with
      | nil => rfl
      | cons c r => simp only [okK] at hok; cases hok
      | star c r => simp only [okK] at hok; cases hok
  refine ⟨fun pins s σ H Q I ⟨r, L, hh, rl, rh, q⟩ => ?_⟩
  refine wpAny_Call_Name_kw (ld_glob I g1 m1 ?_ g2)
  cases xs with
  | nil =>
    have ees : es = .nil := by
      cases es with
      | nil => rfl
      | cons c r => simp only [oks] at hos; cases hos
      | star c r => simp only [noStar] at hns; cases hns
    subst ees
    cases kws with
    | nil =>
      obtain ⟨rfl, rfl⟩ := nokw rfl
      exact PySem.W.callWith_K0 I.kIn m2 (cr pins σ H s Q [] [] [] [] I .nil .nil rfl (hK (Ext.refl _ _) rh RDs.nil RDs.nil rfl rfl q))
    | cons c d => cases hxk
  | cons e xs =>
    have hst : isStarE e = false := by
      cases es with
      | nil => simp only [oks] at hos; cases hos
      | cons c r => simp only [oks, Bool.and_eq_true, Bool.not_eq_true'] at hos; exact hos.1.1
      | star c r => simp only [noStar] at hns; cases hns
    have hany := stars_of hns hos pos X.env
    have run1 := ha.run pos pins s σ H (fun vs H1 => ∃ r1 d1 h1, Ext r H r1 H1 ∧ RelH (sy X) r1 H1 h1 ∧ RDs (sy X) r1 H1 d1 vs ∧ d1.length = lenCs es ∧ Post (sy X) (RD (sy X)) r H (fun cls d H' => W cls d σ H') ((exs E ks L h1).bind fun zs h => fD d1 zs h) Q) I
      ⟨r, L, hh, rl, rh, (bindS (rel := RDs (sy X)) q (Ext.refl _ _)).imp fun vs H1 ⟨r1, d1, h1, eq1, e1, R1, hx, q1⟩ => ⟨r1, d1, h1, e1, R1, hx, exs_len hns eq1, q1⟩⟩
    cases kws with
    | nil =>
      obtain ⟨rfl, rfl⟩ := nokw rfl
      have hany2 : (backTo pos (starEach xs X.env)).any (·.1) = false := by
        rw [starEach_no hst] at hany
        exact hany
      refine PySem.W.callWith_K (h₀ := X.base) I.ok.mod.kin m2 (thn run1 fun us s1 ⟨vs, H1, I1, rv, r1, d1, h1, e1, R1, hx, hl, q1⟩ => ⟨I1.kIn, ?_⟩) (starEach_no hst) hany2
      exact cr pins σ H1 s1 Q us [] vs [] I1 rv .nil rfl (hK e1 R1 hx RDs.nil hl rfl q1)
    | cons c d =>
      obtain ⟨k1, k2, k3⟩ := kw_names (pos := pos) (env := X.env) hkn
      refine PySem.W.callWith_KW (h₀ := X.base) I.ok.mod.kin m2 k1 (thn run1 fun us s1 ⟨vs, H1, I1, rv, r1, d1, h1, e1, R1, hx, hl, q1⟩ => ?_) (by rw [hany, k3]; rfl) (starEach_no hst)
      have run2 := hk.run pos pins s1 σ H1 (fun zs H2 => ∃ r2 d2 h2, Ext r H r2 H2 ∧ RelH (sy X) r2 H2 h2 ∧ RDs (sy X) r2 H2 d1 vs ∧ RDs (sy X) r2 H2 d2 zs ∧ d2.length = kn.length ∧ Post (sy X) (RD (sy X)) r H (fun cls d H' => W cls d σ H') (fD d1 d2 h2) Q) I1
        ⟨r1, L, h1, rl.mono e1, R1, (bindS (rel := RDs (sy X)) q1 e1).imp fun zs H2 ⟨r2, d2, h2, eq2, e2, R2, hy, q2⟩ => ⟨r2, d2, h2, e1.trans e2, R2, hx.mono e2, hy, by
          obtain ⟨z1, z2⟩ := okK_len hok
          rw [exs_len z1 eq2, z2]
          have := congrArg List.length hkn
          simpa using this, q2⟩⟩
      refine thn run2 fun ws s2 ⟨zs, H2, I2, rz, r2, d2, h2, e2, R2, hx2, hy, hl2, q2⟩ => ?_
      rw [k2]
      exact ⟨I2.kIn, cr pins σ H2 s2 Q us ws vs zs I2 rv rz (by rw [hy.length]; exact hl2) (hK e2 R2 hx2 hy hl hl2 q2)⟩
/-! ### a new instance -/
/-- what C(..) asks -/
def mkD (Y : Sy) (W : WX) (sl : List Sl) (n : Nat) (C : Addr) (sp : Sp) (vs zs : List V) (σ : L2.St) (H : Hp) (Q : VK) : Prop := vs.length + 1 = n ∧ ∀ a dx, H a = none → H dx = none → dx ≠ a → ∀ sv su fv, SlRs Y sl sv su → arr (.ref a :: vs) zs sv = some fv →
  sp fv (upd (upd H dx (.own a)) a (.ins C dx [])) (fun v H2 => v = .non ∧ Q (.ref a) H2) (WE W σ)
theorem run_mk {j n : Nat} {C f : Addr} {fd : FuncData} {ps kn : List Str} {sp : Sp} {sl : List Sl} (M : Mk X.K C f) (F : FnOk X.prog X.w X.K X.mg X.base (CX X.prog X.w) j f fd ps sp) (hr : Room (j + 1) X.A) (hb : BindOk (sy X) fd ps n kn sl) (tkx : Takes X W) : CRk X C kn (mkD (sy X) W sl n C sp) := by
  intro pins σ H s Q us ws vs zs I r1 r2 hm ⟨hn, h⟩
  obtain ⟨sv, su, hs, hb⟩ := hb
  have J := Inv.made (C := C) I
  have q1 : Vals (V.ref (s.heap.objs.size + 1) :: vs) (Value.ref (s.heap.objs.size + 1) :: us) := .cons rfl r1
  obtain ⟨full, e1, e2⟩ := hb _ (.ref (s.heap.objs.size + 1) :: us) ws J.kIn (by rw [List.length_cons, ← r1.length]; exact hn) (by rw [← r2.length]; exact hm)
  obtain ⟨fv, e3, e4⟩ := arr_vals q1 r2 hs e1
  have hq := h (s.heap.objs.size + 1) s.heap.objs.size (I.hok.fresh (Nat.le_succ _)) (I.hok.fresh (Nat.le_refl _)) (Nat.ne_of_lt (Nat.lt_succ_self _)) sv su fv hs e3
  have back := F.run _ X.stack _ _ ⟨.ref (s.heap.objs.size + 1) :: us, kn.zip ws⟩ full fv _ (WE W σ) (hr.make C us (kn.zip ws)) (J.env0.make C us (kn.zip ws)) e2 e4 hq
  refine wpAny_call (make_map (f := f) I.kIn M.makes M.init (beq_iff_eq.mp M.fn) (codeAny_mono back fun res s' z => ?_))
  cases res with
  | error e => exact passAt tkx σ pins _ _ e s' J z
  | ok fl => cases fl with
    | ret u =>
      obtain ⟨v, H', J', rv, ev, q⟩ := J.after z
      subst ev
      exact ⟨rv, V.ref (s.heap.objs.size + 1), H', J', rfl, q⟩
    | _ => exact z.elim
/-- a place for the new one -/
theorem made_rel {Y : Sy} {r : Rg} {H : Hp} {h : Hs} {a dx C : Addr} {c : Str} (R : RelH Y r H h) (na : H a = none) (nd : H dx = none) (ne : dx ≠ a) (hC : Y.mg c = some (.ref C)) :
    Ext r H (r.add a) (upd (upd H dx (.own a)) a (.ins C dx [])) ∧ RelH Y (r.add a) (upd (upd H dx (.own a)) a (.ins C dx [])) (h ++ [.ins c []]) := by
  have n2 : (upd H dx (.own a)) a = none := by rw [upd_ne (Ne.symm ne)]; exact na
  refine ⟨(Ext.grow nd).trans (Ext.growT n2), (R.grow nd).growT n2 ⟨C, dx, [], upd_same, hC, rfl, RDs.nil⟩⟩
theorem mk_post {cl : Cl} {f sh n : Nat} {sl : List Sl} {C : Addr} {σ : L2.St} {H H2 : Hp} {Q : VK} {r r2 : Rg} {h2 : Hs} {ds zs : List D} {vs us : List V} (hC : X.mg cl.nm = some (.ref C)) (hi : cl.init = some f) (hsl : E.shs[sh]? = some sl) (hn : vs.length + 1 = n)
    (e2 : Ext r H r2 H2) (R2 : RelH (sy X) r2 H2 h2) (hd : RDs (sy X) r2 H2 ds vs) (hz : RDs (sy X) r2 H2 zs us) (q : Post (sy X) (RD (sy X)) r H (fun cls d H' => W cls d σ H') (makeC E cl sh ds zs h2) Q) : mkD (sy X) W sl n C (spF (sy X) E f) vs us σ H2 Q := by
  refine ⟨hn, fun a dx na nd ne sv su fv hs hfv => ?_⟩
  obtain ⟨e3, R3⟩ := made_rel (c := cl.nm) R2 na nd ne hC
  have hl : RD (sy X) (r2.add a) (upd (upd H2 dx (.own a)) a (.ins C dx [])) (.loc h2.length) (.ref a) := by
    simp only [RD]
    refine ⟨a, rfl, ?_⟩
    show (r2.o ++ [a])[h2.length]? = some a
    rw [← R2.len]
    simp
  unfold makeC at q
  rw [hi, hsl] at q
  simp only [Option.bind_some] at q
  cases e : arr (.loc h2.length :: ds) zs sl with
  | none => rw [e] at q; exact q.elim
  | some l =>
    rw [e] at q
    have q : Post (sy X) (RD (sy X)) r H (fun cls d H' => W cls d σ H') (if E.ab.contains f then .bad else (match E.call f l (h2 ++ [.ins cl.nm []]) with
      | .ok .non h' => done h2.length (.loc h2.length) h'
      | .exc c x h' => if flatO x && (h'.take h2.length).all (O.undr h2.length) then .exc c x (h'.take h2.length) else .bad
      | _ => .bad)) Q := q
    split at q
    · exact q.elim
    · · refine ⟨r2.add a, l, h2 ++ [.ins cl.nm []], R3, arr_rds (RDs.cons hl (hd.mono e3)) (hz.mono e3) hs e hfv, ?_⟩
        cases ec : E.call f l (h2 ++ [.ins cl.nm []]) with
        | bad => rw [ec] at q; exact q.elim
        | exc c x h' =>
          rw [ec] at q
          intro r4 H4 cls d e4 R4 hx
          exact exc_post R2 (e3.trans e4) R4 hx (q.shift e2)
        | ok d h' =>
          rw [ec] at q
          cases d with
          | non =>
            intro r4 H4 b e4 R4 hb
            exact ⟨hb.non_inv, done_post R2 (e3.trans e4) R4 (hl.mono e4) (q.shift e2)⟩
          | _ => exact q.elim
/-- in a heap of its own -/
theorem mk_under {cl : Cl} {f sh n : Nat} {sl : List Sl} {C : Addr} {σ : L2.St} {H H2 : Hp} {Q : VK} {r r2 : Rg} {h2 : Hs} {ds zs : List D} {vs us : List V} (hC : X.mg cl.nm = some (.ref C)) (hi : cl.init = some f) (hsl : E.shs[sh]? = some sl) (hn : vs.length + 1 = n)
    (e2 : Ext r H r2 H2) (R2 : RelH (sy X) r2 H2 h2) (hd : RDs (sy X) r2 H2 ds vs) (hz : RDs (sy X) r2 H2 zs us) (u : (D.undrs 0 ds && D.undrs 0 zs) = true) (q : Post (sy X) (RD (sy X)) r H (fun cls d H' => W cls d σ H') (back h2 (makeC E cl sh ds zs [])) Q) : mkD (sy X) W sl n C (spF (sy X) E f) vs us σ H2 Q := by
  rw [Bool.and_eq_true] at u
  have cut : ∀ {ds : List D} {vs : List V}, D.undrs 0 ds = true → RDs (sy X) r2 H2 ds vs → RDs (sy X) r2.under H2 ds vs := fun u hd => hd.cut (n := 0) ⟨fun m a hm _ => absurd hm (Nat.not_lt_zero _), fun a o q n => ⟨q, fun m => n (Rg.under_has.mp m)⟩⟩ u
  refine mk_post (r := r2.under) (H := H2) (r2 := r2.under) (h2 := []) hC hi hsl hn (Ext.refl _ _) R2.under (cut u.1 hd) (cut u.2 hz) ?_
  cases ec : makeC E cl sh ds zs [] with
  | bad => rw [ec] at q; exact q.elim
  | exc c x hh =>
    rw [ec] at q
    cases hh with
    | cons o t => exact q.elim
    | nil =>
      have q : Post (sy X) (RD (sy X)) r H (fun cls d H' => W cls d σ H') (if flatO x then .exc c x h2 else .bad) Q := q
      split at q
      · intro r3 H3 cls d e3 R3 hx
        exact q r2 H3 cls d (e2.trans (back_ext e3)) (back_rel R2 e3) (hx.go (back_go e3 R3))
      · exact q.elim
  | ok d hh =>
    rw [ec] at q
    cases hh with
    | cons o t => exact q.elim
    | nil =>
      have q : Post (sy X) (RD (sy X)) r H (fun cls d H' => W cls d σ H') (.ok d h2) Q := q
      intro r3 H3 b e3 R3 hb
      exact q r2 H3 b (e2.trans (back_ext e3)) (back_rel R2 e3) (hb.go (back_go e3 R3))
theorem sd_new {c sh f n : Nat} {es ks : Cs} {x : Str} {xs : List Expr} {kws : List Keyword} {kn : List Str} {sl : List Sl} (o : Ok T E k X W) (hg : glB X.env.scope x = true) (hf : T.cs[c]? = some (some x)) (hsh : T.shs[sh]? = some (f, n, kn, sl)) (hini : T.ini[c]? = some (some f)) (hn : lenCs es + 1 = n) (hkn : kws.map (·.arg) = kn.map some) (hns : noStar es = true)
    (hos : oks T X.N es X.env.scope xs = true) (hxk : (!xs.isEmpty || kws.isEmpty) = true) (hok : okK T X.N ks X.env.scope kws = true) (ha : PA X xs (tA (sy X) W E es)) (hk : PK X kws (tA (sy X) W E ks)) : PE X (.Call (.Name x p) xs kws pos) (tE (sy X) W E (.new c sh es ks)) := by
  obtain ⟨cl, C, ecl, rfl, hC, hin⟩ := o.cnm c x hf
  obtain ⟨hx, hi, hab⟩ := hin f hini
  have co := o.cls cl (List.mem_of_getElem? ecl) hx C hC
  obtain ⟨a, fd, ps, M, F, hb⟩ := co.ini f hi hab
  obtain ⟨hsl, hb⟩ := hb sh n kn sl hsh
  refine PE.imp (sd_cr (E := E) (W := W) (ks := ks) (es := es) (fD := makeP E c sh) (run_mk M F o.room hb o.tk) hg hC M.kp hkn hns hos hxk hok ha hk ?_) fun σ H Q q => q
  intro r H σ Q r2 H2 h2 ds zs vs us e2 R2 hd hz hl1 hl2 q
  have hv : vs.length + 1 = n := by rw [hd.length, hl1]; exact hn
  unfold makeP at q
  rw [ecl] at q
  simp only [hx] at q
  split at q
  · cases ‹false = true›
  · split at q
    · rename_i u
      exact mk_under hC hi hsl hv e2 R2 hd hz u q
    · exact mk_post hC hi hsl hv e2 R2 hd hz q
end
end EV

set_option Elab.async false
set_option linter.all false
set_option maxRecDepth 100000
set_option maxHeartbeats 4000000
/-! EV B: len and in of instances, isinstance of own classes. -/
namespace EV
open PySem PySem.Spec PyProof.Rows L2

section
variable {T : Tab} {E : Ev} {k : Nat} {X : Cx} {W : WX} {pos p : Pos}
/-- a def's call, d deeper (0 or 1) -/
theorem run_d {j : Nat} {A : Around} {f : Addr} {fd : FuncData} {ps : List Str} {sp : Sp} {pins : List (Addr × Obj)} {σ : L2.St} {H : Hp} {s : Shared} {Q : VK} {us : List Value} {vs : List V} (F : FnOk X.prog X.w X.K X.mg X.base (CX X.prog X.w) j f fd ps sp) (hA : (A = X.A ∧ Room j X.A) ∨ (A = X.A.in1 ∧ Room (j + 1) X.A)) (hb : Binds X.K fd ps []) (tkx : Takes X W)
    (I : Inv X pins σ H s) (r : Vals vs us) (h : sp vs H Q (WE W σ)) : wpAny (model X.prog X.w) A (call (.ref f) us) (EP X pins σ Q) X.xe s := by
  have hl : (us ++ []).length = ps.length := by
    rw [List.append_nil, ← r.length]
    exact F.len _ _ _ _ h
  have b := hb s us I.kIn hl
  rw [List.append_nil] at b
  rcases hA with ⟨rfl, hr⟩ | ⟨rfl, hr⟩
  · refine wpAny_call (codeAny_mono (F.run X.A X.stack s H ⟨us, []⟩ us vs Q (WE W σ) hr I.env0 b r h) fun res s' z => ?_)
    cases res with
    | error e => exact passAt tkx σ pins H s e s' I z
    | ok fl => cases fl with
      | ret u => exact I.after z
      | _ => exact z.elim
  · refine wpAny_call (codeAny_mono (F.run X.A.in1 X.stack s H ⟨us, []⟩ us vs Q (WE W σ) hr.in1 I.env0.in1 b r h) fun res s' z => ?_)
    cases res with
    | error e => exact passAt tkx σ pins H s e s' I z
    | ok fl => cases fl with
      | ret u => exact I.after z
      | _ => exact z.elim
/-- a special method of an instance -/
theorem spec_post {m : Str} {d : D} {ds : List D} {x : V} {xs : List V} {h1 : Hs} {r r1 : Rg} {H H1 : Hp} {σ : L2.St} {f : R D → R D} {Q : VK} (o : Ok T E k X W) (e1 : Ext r H r1 H1) (R1 : RelH (sy X) r1 H1 h1) (hx : RD (sy X) r1 H1 d x) (hs : RDs (sy X) r1 H1 ds xs) (hf : f .bad = .bad) (q : Post (sy X) (RD (sy X)) r H (fun cls d H' => W cls d σ H') (f (spec E d m ds h1)) Q) :
    ∃ (g : Nat) (a C dx b : Addr) (vs : List (Str × V)) (fd : FuncData) (ps : List Str), x = .ref a ∧ H1 a = some (.ins C dx vs) ∧ Meth X.K C m b ∧ FnOk X.prog X.w X.K X.mg X.base (CX X.prog X.w) (2 * k) b fd ps (spF (sy X) E g) ∧ Binds X.K fd ps [] ∧ RDs (sy X) r1 H1 (d :: ds) (.ref a :: xs) ∧
      Post (sy X) (RD (sy X)) r H (fun cls d H' => W cls d σ H') (f (callP E g (d :: ds) h1)) Q := by
  unfold spec at q
  split at q
  · rename_i c' fs eo
    obtain ⟨a, C, dx, vs, rfl, ha, hC, hk, hr⟩ := R1.objI hx eo
    split at q
    · rename_i cl ec
      obtain ⟨m1, m2, rfl⟩ := insOf_mem ec
      have co := o.cls cl m1 m2 C hC
      split at q
      · rename_i g eg
        split at q
        · rw [hf] at q; exact q.elim
        · rename_i hab
          obtain ⟨b, fd, ps, hm, F, hb⟩ := co.mth m g eg (by simpa using hab)
          exact ⟨g, a, C, dx, b, vs, fd, ps, rfl, ha, hm, F, hb, RDs.cons hx hs, q⟩
      · rw [hf] at q; exact q.elim
    · rw [hf] at q; exact q.elim
  · rw [hf] at q; exact q.elim
/-- an int that is a length -/
theorem len_post {r : Rg} {H : Hp} {W' : XK} {res : R D} {Q : VK} (q : Post (sy X) (RD (sy X)) r H W' (asLen res) Q) : Post (sy X) (RD (sy X)) r H W' res (fun v H' => ∃ i : Int, v = .int i ∧ 0 ≤ i ∧ i < 2 ^ 62 ∧ Q (.int i) H') := by
  cases res with
  | bad => exact q
  | exc c x h => exact q
  | ok d h =>
    cases d with
    | int i =>
      have q : Post (sy X) (RD (sy X)) r H W' (if decide (0 ≤ i) && decide (i < 2 ^ 62) then .ok (.int i) h else .bad) Q := q
      split at q
      · rename_i z
        rw [Bool.and_eq_true] at z
        exact fun r' H' b e R hb => ⟨i, hb.int_inv, of_decide_eq_true z.1, of_decide_eq_true z.2, q r' H' _ e R RD.int'⟩
      · exact q.elim
    | _ => exact q.elim
theorem bl_post {r : Rg} {H : Hp} {W' : XK} {res : R D} {Q : VK} (q : Post (sy X) (RD (sy X)) r H W' (asBl res) Q) : Post (sy X) (RD (sy X)) r H W' res (fun v H' => ∃ b : Bool, v = .bl b ∧ Q (.bl b) H') := by
  cases res with
  | bad => exact q
  | exc c x h => exact q
  | ok d h =>
    cases d with
    | bl i => exact fun r' H' b e R hb => ⟨i, hb.bl_inv, q r' H' _ e R RD.bl'⟩
    | _ => exact q.elim
theorem sd_olen {c : C} {y : Expr} (o : Ok T E k X W) (hg : glB X.env.scope "len" = true) (hst : isStarE y = false) (hy : PE X y (tE (sy X) W E c)) : PE X (.Call (.Name "len" p) [y] [] pos) (tE (sy X) W E (.olen c)) := by
  obtain ⟨g1, g2⟩ := glB_ok hg
  obtain ⟨b1, b2⟩ := boot_B .len
  refine ⟨fun pins s σ H Q I ⟨r, L, hh, rl, rh, q⟩ => ?_⟩
  refine wpAny_Call_Name_kw (ld_blt (u := .builtin "len") I g1 (o.blt .len) b1 ?_ b2 g2)
  have ha : PA X [y] (tCons (tE (sy X) W E c) tNil) := pa_cons hy pa_nil (starEach_no hst)
  refine PyProof.Rows.callWith_builtin1 (thn (ha.run pos pins s σ H (fun vs H1 => ∃ x r1 d1 h1, vs = [x] ∧ Ext r H r1 H1 ∧ RelH (sy X) r1 H1 h1 ∧ RD (sy X) r1 H1 d1 x ∧ Post (sy X) (RD (sy X)) r H (fun cls d H' => W cls d σ H') (asLen (spec E d1 "__len__" [] h1)) Q) I
    ⟨r, L, hh, rl, rh, (bindS (rel := RD (sy X)) q (Ext.refl _ _)).imp fun x H1 ⟨r1, d1, h1, _, e1, R1, hx, q1⟩ => ⟨x, r1, d1, h1, rfl, e1, R1, hx, q1⟩⟩) fun us s1 ⟨vs, H1, I1, rv, x, r1, d1, h1, ev, e1, R1, hx, q1⟩ => ?_) (starEach_no hst) rfl
  subst ev
  obtain ⟨g, a, C, dx, b, vs, fd, ps, rfl, ha, hm, F, hb, hds, q2⟩ := spec_post (f := asLen) o e1 R1 hx RDs.nil rfl q1
  obtain ⟨mA, O, _⟩ := ins_get I1.hok ha
  obtain ⟨od, J, _⟩ := O.look
  obtain ⟨m, fr⟩ := I1.fr
  rw [Vals.ref1 rv]
  refine PySem.W.len_K fr I1.ok.mod.kin J hm.at_ hm.fn ?_
  refine wpAny_mono (run_d (W := W) (us := [.ref a]) (vs := [.ref a]) F (.inr ⟨rfl, o.room⟩) hb o.tk I1 (.cons rfl .nil) (callP_post e1 R1 hds (len_post q2))) (fun u s2 ⟨v, H2, I2, rv, i, ev, hi, hj, q3⟩ => ?_) fun _ _ z => z
  subst ev
  obtain ⟨t, rfl⟩ := rv
  exact ⟨⟨hi, by omega⟩, .int i, H2, I2.tok _, ⟨_, rfl⟩, q3⟩
/-- x in y, by the class -/
theorem in_own {v u : Value} {x y : V} {d1 d2 : D} {r r2 : Rg} {H H2 : Hp} {h2 : Hs} {σ : L2.St} {s : Shared} {pins : List (Addr × Obj)} {Q : VK} (o : Ok T E k X W) (I : Inv X pins σ H2 s) (rx : RelV x v) (ry : RelV y u) (e2 : Ext r H r2 H2) (R2 : RelH (sy X) r2 H2 h2) (hx : RD (sy X) r2 H2 d1 x) (hy : RD (sy X) r2 H2 d2 y)
    (q : Post (sy X) (RD (sy X)) r H (fun cls d H' => W cls d σ H') (asBl (spec E d2 "__contains__" [d1] h2)) Q) : wpAny (model X.prog X.w) X.A (compareOp .In v u) (fun w s3 => ∃ (i : Bool) (H3 : Hp), w = .bool i ∧ Inv X pins σ H3 s3 ∧ Q (.bl i) H3) X.xe s := by
  obtain ⟨g, b, C, dx, f, vs, fd, ps, rfl, ha, hm, F, hb, hds, q3⟩ := spec_post (f := asBl) o e2 R2 hy (RDs.cons hx RDs.nil) rfl q
  obtain rfl : u = Value.ref b := ry
  obtain ⟨mA, O, _⟩ := ins_get I.hok ha
  obtain ⟨od, J, _⟩ := O.look
  obtain ⟨m, fr⟩ := I.fr
  refine PySem.W.in_K fr I.ok.mod.kin J hm.at_ hm.fn ?_
  refine wpAny_mono (run_d (W := W) (us := [.ref b, v]) (vs := [.ref b, x]) F (.inl ⟨rfl, o.rm⟩) hb o.tk I (.cons rfl (.cons rx .nil)) (callP_post e2 R2 hds (bl_post q3))) (fun w s3 ⟨z, H3, I3, rz, i, ev, q4⟩ => ?_) fun _ _ z => z
  subst ev
  cases (show w = Value.bool i from rz)
  exact wpAny_truthy_bool ⟨i, H3, rfl, I3, q4⟩
theorem sd_oin {a c : C} {l y : Expr} (o : Ok T E k X W) (hs : isSetE y = false) (hl : PE X l (tE (sy X) W E a)) (hy : PE X y (tE (sy X) W E c)) : PE X (.Compare l [.In] [y] pos) (tE (sy X) W E (.oin a c)) := by
  refine ⟨fun pins s σ H Q I ⟨r, L, hh, rl, rh, q⟩ => ?_⟩
  refine wpAny_Compare1 (binT (R := fun x y H2 => ∃ r2 d1 d2 h2, Ext r H r2 H2 ∧ RelH (sy X) r2 H2 h2 ∧ RD (sy X) r2 H2 d1 x ∧ RD (sy X) r2 H2 d2 y ∧ Post (sy X) (RD (sy X)) r H (fun cls d H' => W cls d σ H') (asBl (spec E d2 "__contains__" [d1] h2)) Q) hl hy I
    ⟨r, L, hh, rl, rh, (bindS (rel := RD (sy X)) q (Ext.refl _ _)).imp fun x H1 ⟨r1, d1, h1, _, e1, R1, hx, q1⟩ => ⟨r1, L, h1, rl.mono e1, R1, (bindS (rel := RD (sy X)) q1 e1).imp fun y H2 ⟨r2, d2, h2, _, e2, R2, hy, q2⟩ => ⟨r2, d1, d2, h2, e1.trans e2, R2, hx.mono e2, hy, q2⟩⟩⟩
    fun v u s2 x y H2 I2 rx ry ⟨r2, d1, d2, h2, e2, R2, hx, hy, q2⟩ => ?_) (marks_of hs)
  refine wpAny_mono (in_own o I2 rx ry e2 R2 hx hy q2) (fun w s3 ⟨i, H3, ew, I3, q4⟩ => ?_) fun _ _ z => z
  subst ew
  exact ⟨.bl i, H3, I3, rfl, q4⟩
theorem bl_tst {r : Rg} {H : Hp} {W' : XK} {res : R D} {Q : Bool → Hp → Prop} (q : Post (sy X) relB r H W' (tst true (asBl res)) Q) : Post (sy X) (RD (sy X)) r H W' (asBl res) (fun v H' => ∀ i, v = .bl i → Q i H') := by
  cases res with
  | bad => exact q
  | exc c x h => exact q
  | ok d h =>
    cases d with
    | bl i =>
      intro r' H' b e R hb j ej
      have hb := hb.bl_inv
      rw [hb] at ej
      cases ej
      exact q r' H' i e R rfl
    | _ => exact q.elim
theorem td_oin {a c : C} {l y : Expr} (o : Ok T E k X W) (hs : isSetE y = false) (hl : PE X l (tE (sy X) W E a)) (hy : PE X y (tE (sy X) W E c)) : PT X (.Compare l [.In] [y] pos) (tT (sy X) W E (.oin a c)) := by
  refine ⟨fun pins s σ H Q I ⟨r, L, hh, rl, rh, q⟩ => ?_⟩
  have q : Post (sy X) relB r H (fun cls d H' => W cls d σ H') (((ex E a false L hh).bind fun x h => (ex E c false L h).bind fun y h => asBl (spec E y "__contains__" [x] h)).bind fun x h => (match truthy h x with
    | some b => .ok (.bl b) h
    | none => .bad)) Q := q
  have ra : tE (sy X) W E a σ H (fun x H1 => ∃ r1 d1 h1, Ext r H r1 H1 ∧ RelH (sy X) r1 H1 h1 ∧ RD (sy X) r1 H1 d1 x ∧ Post (sy X) relB r H (fun cls d H' => W cls d σ H') (((ex E c false L h1).bind fun y h => asBl (spec E y "__contains__" [d1] h)).bind fun x h => (match truthy h x with
    | some b => .ok (.bl b) h
    | none => .bad)) Q) := by
    refine ⟨r, L, hh, rl, rh, ?_⟩
    cases ea : ex E a false L hh with
    | bad => rw [ea] at q; exact q.elim
    | exc c x h => rw [ea] at q; exact q
    | ok d1 h1 =>
      rw [ea] at q
      exact fun r1 H1 x e1 R1 hx => ⟨r1, d1, h1, e1, R1, hx, q⟩
  refine wpAny_isTrue_Compare1 (thn (hl.run pins s σ H _ I ra) fun v s1 ⟨x, H1, I1, rx, r1, d1, h1, e1, R1, hx, q1⟩ => ?_) (marks_of hs)
  have rc : tE (sy X) W E c σ H1 (fun y H2 => ∃ r2 d2 h2, Ext r H r2 H2 ∧ RelH (sy X) r2 H2 h2 ∧ RD (sy X) r2 H2 d1 x ∧ RD (sy X) r2 H2 d2 y ∧ Post (sy X) relB r H (fun cls d H' => W cls d σ H') (tst true (asBl (spec E d2 "__contains__" [d1] h2))) Q) := by
    refine ⟨r1, L, h1, rl.mono e1, R1, ?_⟩
    cases ec : ex E c false L h1 with
    | bad => rw [ec] at q1; exact q1.elim
    | exc c x h => rw [ec] at q1; exact Post.shift (show Post (sy X) relB r H (fun cls d H' => W cls d σ H') (.exc c x h) Q from q1) e1
    | ok d2 h2 =>
      rw [ec] at q1
      exact fun r2 H2 y e2 R2 hy => ⟨r2, d2, h2, e1.trans e2, R2, hx.mono e2, hy, q1⟩
  refine thn (hy.run pins s1 σ H1 _ I1 rc) fun u s2 ⟨y, H2, I2, ry, r2, d2, h2, e2, R2, hx2, hy2, q2⟩ => ?_
  refine thn (in_own o I2 rx ry e2 R2 hx2 hy2 (bl_tst q2)) fun w s3 ⟨i, H3, ew, I3, q4⟩ => ?_
  subst ew
  exact wpAny_truthy_bool ⟨H3, I3, q4 i rfl⟩
/-! ### isinstance of an own class -/
theorem sd_isO {a : C} {c : Nat} {y : Expr} {z : Str} {zp : Pos} (o : Ok T E k X W) (hg : glB X.env.scope "isinstance" = true) (hgz : glB X.env.scope z = true) (hc : T.cs[c]? = some (some z)) (hst : isStarE y = false) (hy : PE X y (tE (sy X) W E a)) :
    PE X (.Call (.Name "isinstance" p) [y, .Name z zp] [] pos) (tE (sy X) W E (.isO a c)) := by
  obtain ⟨g1, g2⟩ := glB_ok hg
  obtain ⟨g3, g4⟩ := glB_ok hgz
  obtain ⟨cl, C, ecl, rfl, hC, _⟩ := o.cnm c z hc
  obtain ⟨b1, b2⟩ := boot_B .isi
  have ha : PA X [y, .Name cl.nm zp] (tCons (tE (sy X) W E a) (tCons (tC (.ref C)) tNil)) := pa_cons hy (pa_cons (pe_glob (v := .ref C) g3 hC rfl g4) pa_nil) (starEach_no hst)
  refine PE.imp (pe_callB (id := "isinstance") call_isi g1 (o.blt .isi) b1 ha b2 g2 (starEach_no hst) rfl) fun σ H Q ⟨r, L, hh, rl, rh, q⟩ => ?_
  refine ⟨r, L, hh, rl, rh, (bindS (rel := RD (sy X)) q (Ext.refl _ _)).imp fun x H1 ⟨r1, d1, h1, _, e1, R1, hx, q1⟩ => ?_⟩
  show rIsi X.K [x, .ref C] H1 Q
  unfold isOwn at q1
  rw [ecl] at q1
  simp only at q1
  split at q1
  · exact q1.elim
  · rename_i hx0
    have hx0 : cl.exc = false := by simpa using hx0
    have co := o.cls cl (List.mem_of_getElem? ecl) hx0 C hC
    split at q1
    · rename_i d' fs eo
      obtain ⟨b, D, dx, vs, rfl, hb, hD, hk, hr⟩ := R1.objI hx eo
      split at q1
      · rename_i dl ed
        obtain ⟨m1, m2, rfl⟩ := insOf_mem ed
        have do_ := o.cls dl m1 m2 D hD
        exact ⟨_, _, _, _, _, rfl, .own C, .base (.ins hb do_.ck.cls do_.ck.ha o.obj.1 o.obj.2 do_.ck.hm), do_.ck.kit cl (List.mem_of_getElem? ecl) hx0 C hC, q1 r1 H1 _ e1 R1 RD.bl'⟩
      · exact q1.elim
    · split at q1
      · rename_i t et
        have fin := q1 r1 H1 _ e1 R1 RD.bl'
        have key : ∀ {t : String}, t ∈ tyVals → TyX X.K H1 x (.type t) → rIsi X.K [x, .ref C] H1 Q := fun {t} ht ty => ⟨_, _, _, _, _, rfl, .own C, ty, co.ck.kitT t ht, fin⟩
        have lst : ∀ {d : D}, RD (sy X) r1 H1 d x → (lstI h1 d).isSome = true → rIsi X.K [x, .ref C] H1 Q := fun {d} hd hl => by
          obtain ⟨ys, ey⟩ := Option.isSome_iff_exists.mp hl
          obtain ⟨b, vs, rfl, hb, _⟩ := R1.lstI hd ey
          rcases hb with hb | ⟨ob, hb⟩
          · exact key (t := "list") (by decide) (.base (.lst hb))
          · exact key (t := "list") (by decide) (.base (.frz hb))
        cases d1 with
        | non => rw [hx.non_inv] at key ⊢; exact key (t := "NoneType") (by decide) (.base .non)
        | bl b => rw [hx.bl_inv] at key ⊢; exact key (t := "bool") (by decide) (.base (.bl b))
        | int i => rw [hx.int_inv] at key ⊢; exact key (t := "int") (by decide) (.base (.int i))
        | str i => rw [hx.str_inv] at key ⊢; exact key (t := "str") (by decide) (.base (.str i))
        | tup ds =>
          obtain ⟨b, vs, rfl, ht, hr⟩ := hx.tup_inv
          rcases ht with ⟨ht, _⟩ | ⟨ob, its, n, h1, h2, _⟩
          · exact key (t := "tuple") (by decide) (.base (.tup ht))
          · exact key (t := "tuple") (by decide) (.kTuple h1 h2)
        | lst ds => exact lst hx rfl
        | loc n =>
          refine lst hx ?_
          simp only [tyB] at et
          split at et
          · rename_i z; rw [z]; rfl
          · cases et
        | ty n => simp only [tyB, lstI] at et; cases et
        | glo x => simp only [tyB, lstI] at et; cases et
        | dic ks ds => simp only [tyB, lstI] at et; cases et
        | obj c ns ds => simp only [tyB, lstI] at et; cases et
      · exact q1.elim
end
end EV

set_option Elab.async false
set_option linter.all false
set_option maxRecDepth 100000
set_option maxHeartbeats 4000000
/-! EV C: [..] * n, comprehensions of two clauses. -/
namespace EV
open PySem PySem.Spec PyProof.Rows L2

theorem rds_rep {Y : Sy} {r : Rg} {H : Hp} {ds : List D} {vs : List V} (h : RDs Y r H ds vs) : ∀ j : Nat, RDs Y r H (List.replicate j ds).flatten (List.replicate j vs).flatten
  | 0 => RDs.nil
  | j + 1 => by
    rw [List.replicate_succ, List.replicate_succ, List.flatten_cons, List.flatten_cons]
    exact h.append (rds_rep h j)
section
variable {T : Tab} {E : Ev} {k : Nat} {X : Cx} {W : WX} {pos p p1 p2 : Pos}
theorem sd_rep {es : Cs} {xs : List Expr} {j kk : Nat} (ha : PA X xs (tA (sy X) W E es)) : PE X (.BinOp (.List xs p1) .Mult (.Constant (.int (j : Int)) kk p2) pos) (tE (sy X) W E (.rep es j)) := by
  refine PE.imp (pe_op op_rep (pe_lst ha) pe_int) fun σ H Q ⟨r, L, hh, rl, rh, q⟩ => ⟨r, L, hh, rl, rh, (bindS (rel := RDs (sy X)) q (Ext.refl _ _)).imp fun vs H1 ⟨r1, d1, h1, _, e1, R1, hx, q1⟩ => ?_⟩
  try dsimp only at q1
  split at q1
  · rename_i z
    simp only [Bool.and_eq_true] at z
    have z1 := ble_lim z.1.1
    have z2 : j ≤ 1000 := Nat.le_of_ble_eq_true z.1.2
    have z3 := ble_lim z.2
    refine ⟨by rw [hx.length]; exact z1, fun a na => ?_⟩
    have e2 := e1.trans (Ext.grow (r := r1) (u := .lst vs) na)
    have pk := ((q1.shift e2).pok noX_ok)
    exact ⟨a, j, vs, rfl, rfl, upd_same, by omega, by omega, by rw [hx.length]; simpa using z3, fun b nb => by
      simpa using pk.lstF (R1.grow na) (rds_rep (hx.mono (Ext.grow na)) j) b nb⟩
  · exact q1.elim
end
end EV

set_option Elab.async false
set_option linter.all false
set_option maxRecDepth 100000
set_option maxHeartbeats 4000000
/-! EV L: comprehensions of two clauses. -/
namespace EV
open PySem PySem.Spec PyProof.Rows L2

theorem Goes.trans {r r1 r2 : Rg} {H H1 H2 : Hp} (a : Goes r H r1 H1) (b : Goes r1 H1 r2 H2) : Goes r H r2 H2 :=
  ⟨fun n x h => b.loc n x (a.loc n x h), fun x o h n => b.obj x o (a.obj x o h n).1 (a.obj x o h n).2⟩
theorem Goes.refl (r : Rg) (H : Hp) : Goes r H r H := ⟨fun _ _ h => h, fun _ _ h n => ⟨h, n⟩⟩
theorem RelL.go {Y : Sy} {r r' : Rg} {H H' : Hp} {σ : L2.St} {L : Lc} (l : RelL Y r H σ L) (e : Goes r H r' H') : RelL Y r' H' σ L :=
  ⟨l.len, fun i d h => let ⟨v, h1, h2⟩ := l.get i d h; ⟨v, h1, h2.go e⟩⟩
theorem lcf_nil {s : Src} {step : D → Hs → R (List D)} {h hE : Hs} {ys : List D} (e : lcLoopF s step [] h = .ok ys hE) : chk s h = true ∧ ys = [] ∧ h = hE := by
  simp only [lcLoopF] at e
  split at e
  · rename_i hc
    simp only [R.ok.injEq] at e
    exact ⟨hc, e.1.symm, e.2⟩
  · cases e
theorem strip_ok {α : Type} {r : R α} {a : α} {h : Hs} (e : strip r = .ok a h) : r = .ok a h := by
  cases r with
  | ok b g => exact e
  | exc c x g => cases e
  | bad => cases e
theorem lcf_cons {s : Src} {step : D → Hs → R (List D)} {d : D} {rest : List D} {h hE : Hs} {ys : List D} (e : lcLoopF s step (d :: rest) h = .ok ys hE) :
    chk s h = true ∧ ∃ o h2 ys2, step d h = .ok o h2 ∧ lcLoopF s step rest h2 = .ok ys2 hE ∧ ys = o ++ ys2 := by
  simp only [lcLoopF] at e
  split at e
  · rename_i hc
    obtain ⟨o, h2, q1, q2⟩ := bind_ok e
    obtain ⟨ys2, h3, q3, q4⟩ := bind_ok q2
    simp only [R.ok.injEq] at q4
    obtain ⟨rfl, rfl⟩ := q4
    exact ⟨hc, o, h2, ys2, strip_ok q1, q3, rfl⟩
  · cases e
theorem strip_noX {α : Type} (r : R α) : NoX (strip r) := by
  cases r with
  | ok a h => exact noX_ok
  | exc c x h => exact noX_bad
  | bad => exact noX_bad
theorem bind_noX {α β : Type} {r : R α} {f : α → Hs → R β} (h1 : NoX r) (h2 : ∀ a h, NoX (f a h)) : NoX (r.bind f) := by
  cases r with
  | ok a h => exact h2 a h
  | exc c x h => exact absurd rfl (h1 c x h)
  | bad => exact noX_bad
theorem lcf_noX {s : Src} {step : D → Hs → R (List D)} : ∀ (xs : List D) (h : Hs), NoX (lcLoopF s step xs h)
  | [], h => by
    simp only [lcLoopF]
    exact noX_ite noX_ok noX_bad
  | d :: rest, h => by
    simp only [lcLoopF]
    exact noX_ite (bind_noX (strip_noX _) fun o h1 => bind_noX (lcf_noX rest h1) fun _ _ => noX_ok) noX_bad
theorem drop_at {α : Type} {xs : List α} {i : Nat} {d : α} {rest : List α} (hd : xs.drop i = d :: rest) : i < xs.length ∧ xs[i]? = some d ∧ xs.drop (i + 1) = rest := by
  refine ⟨?_, ?_, ?_⟩
  · have := congrArg List.length hd
    rw [List.length_drop, List.length_cons] at this
    omega
  · have := congrArg (fun l => l[0]?) hd
    simpa using this
  · have := congrArg List.tail hd
    simpa using this
section
variable {T : Tab} {E : Ev} {k : Nat} {X : Cx} {W : WX}
/-- the list that is made grows -/
theorem ext_put {r1 r4 : Rg} {H1 H4 : Hp} {D₀ : Addr} {u : HO} (nD : H1 D₀ = none) (e : Ext r1 H1 r4 H4) : Ext r1 H1 r4 (upd H4 D₀ u) :=
  ⟨e.lf, e.le, fun b o q n => by rw [upd_ne (ne_of_none q nD)]; exact e.fr b o q n, e.nw, fun b q => e.st b (st_upd b q)⟩
theorem lc2_rd {m : Bool} {vs vs1 : List Nat} {tg tg1 : Tg} {it it1 : It} {ifs ifs1 : Cs} {c : C} {N : List Str} {σ : L2.St} {H : Hp} {Q : VK} (htg : tgIn vs tg = true) (htg1 : tgIn vs1 tg1 = true) (q : tE (sy X) W E (.lc2 m vs vs1 tg it ifs tg1 it1 ifs1 c) σ H Q) :
    tLc2 (tI (sy X) W E it) (gTg X.K tg) (tAs (sy X) noW E ifs) (tI (sy X) noW E it1) (gTg X.K tg1) (tAs (sy X) noW E ifs1) (tE (sy X) noW E c) ((vs.map fun i => (N.getD i "", i)).map (·.2)) vs1 σ H Q := by
  obtain ⟨r, L, h, rl, rh, p⟩ := q
  have hown : (vs.map fun i => (N.getD i "", i)).map (·.2) = vs := by
    rw [List.map_map]
    exact List.map_id _
  rw [hown]
  refine ⟨r, L, h, rl, rh, (bindP (rel := RI (sy X)) p).imp fun J H1 ⟨r1, s, h1, _, e1, rh1, ri, p1⟩ => fun D₀ nD => ?_⟩
  dsimp only at p1
  generalize hst : (fun (d : D) (h : Hs) => stepF2 (setTg tg d (wipeL vs L)) (fun L h => exA E ifs L h) (fun L h => (strip (exI E it1 L h)).bind fun s1 h => lcLoop s1 (fun d h => stepC (setTg tg1 d (wipeL vs1 L)) (fun L h => exA E ifs1 L h) (fun L h => ex E c false L h) h) s1.xs h) h) = step at p1
  cases el : lcLoopF s step s.xs h1 with
  | bad => rw [el] at p1; exact p1.elim
  | exc c x h => exact absurd el (lcf_noX _ _ _ _ _)
  | ok ys0 hE =>
    rw [el] at p1
    have p1 : Post (sy X) (RD (sy X)) r H (fun cls d H' => W cls d σ H') (newL m ys0 hE) Q := p1
    have hlim : ys0.length ≤ sizeLine := by
      unfold newL at p1
      split at p1
      · rename_i z; exact ble_lim z
      · exact p1.elim
    refine ⟨fun i mm Hc => ∃ rc h' acc accV ys, Hc D₀ = some (.lst accV) ∧ D₀ ∈ rc.f ∧ Ext r1 H1 rc Hc ∧ RelH (sy X) rc Hc h' ∧ RDs (sy X) rc Hc acc accV ∧ mm = s.xs.length - i ∧ i ≤ s.xs.length ∧ lcLoopF s step (s.xs.drop i) h' = .ok ys hE ∧ acc ++ ys = ys0,
      ⟨s.xs.length, r1.addF D₀, h1, [], [], ys0, upd_same, List.mem_cons_self .., Ext.growF nD, rh1.growF nD (fun _ e => nomatch e) (fun _ e => nomatch e), RDs.nil, rfl, Nat.zero_le _, el, rfl⟩, ?_⟩
    rintro i mm Hc ⟨rc, h', acc, accV, ys, hD, mD, e', R', hacc, rfl, hi', hl, hys⟩
    have nr : D₀ ∉ rc.o := (R'.frm D₀ mD).1
    cases hd : s.xs.drop i with
    | nil =>
      rw [hd] at hl
      obtain ⟨hc, rfl, rfl⟩ := lcf_nil hl
      have hlen : s.xs.length ≤ i := List.drop_eq_nil_iff.mp hd
      refine .inl ⟨(ri i rc _ h' e'.goes R' hc).2 (Nat.le_antisymm hlen hi'), ?_⟩
      rw [List.append_nil] at hys
      subst hys
      exact made_post rh1 nD e1 e' mD R' hD hacc p1
    | cons d rest =>
      rw [hd] at hl
      obtain ⟨hc, od, h2, ys2, hstep, hl2, rfl⟩ := lcf_cons hl
      obtain ⟨hlt, hdi, hrest⟩ := drop_at hd
      obtain ⟨go, yl⟩ := (ri i rc _ h' e'.goes R' hc).1 d hdi
      refine .inr ⟨go, fun H' => ∃ rc h' acc accV ys, H' D₀ = some (.lst accV) ∧ D₀ ∈ rc.f ∧ Ext r1 H1 rc H' ∧ RelH (sy X) rc H' h' ∧ RDs (sy X) rc H' acc accV ∧ s.xs.length - (i + 1) = s.xs.length - (i + 1) ∧ i + 1 ≤ s.xs.length ∧ lcLoopF s step (s.xs.drop (i + 1)) h' = .ok ys hE ∧ acc ++ ys = ys0,
        fun H' ⟨r'', h'', acc2, accV2, ys3, q⟩ => ⟨s.xs.length - (i + 1), by omega, r'', h'', acc2, accV2, ys3, q⟩, fun x H'' hy => ?_⟩
      obtain ⟨ey, Ry, hx⟩ := yl x H'' hy
      have mem_of : ∀ {ra r3 : Rg} {Ha H3 : Hp}, D₀ ∈ ra.f → Ext ra Ha r3 H3 → D₀ ∈ r3.f := fun {ra r3 Ha H3} ma e3 => by
        obtain ⟨t, et, _⟩ := e3.lf
        rw [et]; exact List.mem_append_right _ ma
      have hstep2 := hstep
      rw [← hst] at hstep2
      dsimp only at hstep2
      cases hset : setTg tg d (wipeL vs L) with
      | none => rw [hset] at hstep2; cases hstep2
      | some L2 =>
        rw [hset] at hstep2
        simp only [stepF2] at hstep2
        obtain ⟨b, hA, qA, hstep3⟩ := bind_ok hstep2
        have rlw : RelL (sy X) rc H'' (wipe σ vs) (wipeL vs L) := wipe_rel (rl.mono (e1.trans (e'.trans ey))) vs
        refine setTg_ok hset rlw hx fun σ2 rl2 same => ⟨wipe_same (same vs htg), rc, L2, h', rl2, Ry, ?_⟩
        rw [qA]
        intro r3 H3 b' e3 R3 hb'
        subst hb'
        cases b with
        | false =>
          rw [if_neg (by decide)] at hstep3 ⊢
          simp only [R.ok.injEq] at hstep3
          obtain ⟨rfl, rfl⟩ := hstep3
          have ec := ey.trans e3
          exact ⟨r3, hA, acc, accV, ys2, ec.fr D₀ _ hD nr, mem_of mD ec, e'.trans ec, R3, hacc.mono ec, rfl, hlt, by rw [hrest]; exact hl2, hys⟩
        | true =>
          rw [if_pos rfl] at hstep3 ⊢
          obtain ⟨s1, h3, qI, hin⟩ := bind_ok hstep3
          have qI := strip_ok qI
          refine ⟨r3, L2, hA, rl2.mono e3, R3, ?_⟩
          rw [qI]
          intro r4 H4 J1 e4 R4 ri1
          generalize hst1 : (fun (d : D) (h : Hs) => stepC (setTg tg1 d (wipeL vs1 L2)) (fun L h => exA E ifs1 L h) (fun L h => ex E c false L h) h) = step1 at hin
          have ec4 := ey.trans (e3.trans e4)
          have rl4 := rl2.mono (e3.trans e4)
          refine ⟨fun j kk Hd => ∃ rd h5 acc5 accV5 ys5, Hd D₀ = some (.lst accV5) ∧ D₀ ∈ rd.f ∧ Ext r1 H1 rd Hd ∧ Goes r4 H4 rd Hd ∧ RelH (sy X) rd Hd h5 ∧ RDs (sy X) rd Hd acc5 accV5 ∧ kk = s1.xs.length - j ∧ j ≤ s1.xs.length ∧ lcLoop s1 step1 (s1.xs.drop j) h5 = .ok ys5 h2 ∧ acc5 ++ ys5 = acc ++ od,
            ⟨s1.xs.length, r4, h3, acc, accV, od, ec4.fr D₀ _ hD nr, mem_of mD ec4, e'.trans ec4, Goes.refl _ _, R4, hacc.mono ec4, rfl, Nat.zero_le _, hin, rfl⟩, ?_⟩
          rintro j kk Hd ⟨rd, h5, acc5, accV5, ys5, hD5, mD5, e5, g5, R5, hacc5, rfl, hj', hl5, hys5⟩
          have nr5 : D₀ ∉ rd.o := (R5.frm D₀ mD5).1
          cases hd5 : s1.xs.drop j with
          | nil =>
            rw [hd5] at hl5
            obtain ⟨hc5, rfl, rfl⟩ := lc_nil hl5
            have hlen : s1.xs.length ≤ j := List.drop_eq_nil_iff.mp hd5
            refine .inl ⟨(ri1 j rd _ h5 g5 R5 hc5).2 (Nat.le_antisymm hlen hj'), ?_⟩
            rw [List.append_nil] at hys5
            exact ⟨rd, h5, acc5, accV5, ys2, hD5, mD5, e5, R5, hacc5, rfl, hlt, by rw [hrest]; exact hl2, by rw [hys5, List.append_assoc]; exact hys⟩
          | cons d5 rest5 =>
            rw [hd5] at hl5
            obtain ⟨hc5, o5, h6, ys6, hs5, hl6, rfl⟩ := lc_cons hl5
            obtain ⟨hlt5, hdi5, hrest5⟩ := drop_at hd5
            obtain ⟨go5, yl5⟩ := (ri1 j rd _ h5 g5 R5 hc5).1 d5 hdi5
            refine .inr ⟨go5, fun H' => ∃ rd h5 acc5 accV5 ys5, H' D₀ = some (.lst accV5) ∧ D₀ ∈ rd.f ∧ Ext r1 H1 rd H' ∧ Goes r4 H4 rd H' ∧ RelH (sy X) rd H' h5 ∧ RDs (sy X) rd H' acc5 accV5 ∧ s1.xs.length - (j + 1) = s1.xs.length - (j + 1) ∧ j + 1 ≤ s1.xs.length ∧ lcLoop s1 step1 (s1.xs.drop (j + 1)) h5 = .ok ys5 h2 ∧ acc5 ++ ys5 = acc ++ od,
              fun H' ⟨r'', h'', acc2, accV2, ys3, q⟩ => ⟨s1.xs.length - (j + 1), by omega, r'', h'', acc2, accV2, ys3, q⟩, fun x5 H6 hy5 => ?_⟩
            obtain ⟨ey5, Ry5, hx5⟩ := yl5 x5 H6 hy5
            rw [← hst1] at hs5
            dsimp only at hs5
            cases hset5 : setTg tg1 d5 (wipeL vs1 L2) with
            | none => rw [hset5] at hs5; cases hs5
            | some L3 =>
              rw [hset5] at hs5
              simp only [stepC] at hs5
              obtain ⟨b5, hB, qB, hs6⟩ := bind_ok hs5
              have rlw5 : RelL (sy X) rd H6 (wipe σ2 vs1) (wipeL vs1 L2) := wipe_rel ((rl4.go g5).mono ey5) vs1
              refine setTg_ok hset5 rlw5 hx5 fun σ3 rl3 same5 => ⟨wipe_same (same5 vs1 htg1), rd, L3, h5, rl3, Ry5, ?_⟩
              rw [qB]
              intro r7 H7 b7 e7 R7 hb7
              subst hb7
              cases b5 with
              | false =>
                rw [if_neg (by decide)] at hs6 ⊢
                simp only [R.ok.injEq] at hs6
                obtain ⟨rfl, rfl⟩ := hs6
                have ec := ey5.trans e7
                exact ⟨r7, hB, acc5, accV5, ys6, ec.fr D₀ _ hD5 nr5, mem_of mD5 ec, e5.trans ec, g5.trans ec.goes, R7, hacc5.mono ec, rfl, hlt5, by rw [hrest5]; exact hl6, hys5⟩
              | true =>
                rw [if_pos rfl] at hs6 ⊢
                obtain ⟨dy, h8, qy, hs8⟩ := bind_ok hs6
                simp only [R.ok.injEq] at hs8
                obtain ⟨rfl, rfl⟩ := hs8
                refine ⟨r7, L3, hB, rl3.mono e7, R7, ?_⟩
                rw [qy]
                intro r8 H8 v e8 R8 hv
                have ec := ey5.trans (e7.trans e8)
                have m8 := mem_of mD5 ec
                have gw := goes_write (H := H8) (u := .lst (accV5 ++ [v])) m8
                refine ⟨accV5, ec.fr D₀ _ hD5 nr5, ?_, r8, h8, acc5 ++ [dy], accV5 ++ [v], ys6, upd_same, m8, ext_put nD (e5.trans ec), (g5.trans ec.goes).trans gw, R8.writeF m8 (fun _ e => nomatch e) (fun _ e => nomatch e), ((hacc5.mono ec).append (RDs.cons hv RDs.nil)).go gw, rfl, hlt5, by rw [hrest5]; exact hl6, ?_⟩
                · have hlen := hacc5.length
                  have z1 := congrArg List.length hys
                  have z2 := congrArg List.length hys5
                  simp only [List.length_append, Option.toList, List.length_cons, List.length_nil] at z1 z2
                  omega
                · rw [← hys5]
                  simp [Option.toList]
theorem sd_lc2 {m : Bool} {vs vs1 : List Nat} {tg tg1 : Tg} {it it1 : It} {ifs ifs1 : Cs} {c : C} {scope : Scope} {te iter te1 iter1 elt : Expr} {fs fs1 : List Expr} {pos : Pos} (o : Ok T E k X W) (hb : blkC X.N X.env.scope scope (vs.map fun i => (X.N.getD i "", i)) = true) (hvs : vs1.all vs.contains = true) (htg : tgIn vs tg = true) (htg1 : tgIn vs1 tg1 = true) (hi : PI X te iter (tI (sy X) W E it))
    (hg : ∀ (s : Shared) (H : Hp) (C : Addr) (cl : List (Str × Addr)) (fp : List Addr), PG (X.blk s H scope (compEnvC scope cl C X.env) fp) te (gTg X.K tg))
    (ht : ∀ (s : Shared) (H : Hp) (C : Addr) (cl : List (Str × Addr)) (fp : List Addr), PTs (X.blk s H scope (compEnvC scope cl C X.env) fp) fs (tAs (sy X) noW E ifs))
    (hi1 : ∀ (s : Shared) (H : Hp) (C : Addr) (cl : List (Str × Addr)) (fp : List Addr), PI (X.blk s H scope (compEnvC scope cl C X.env) fp) te1 iter1 (tI (sy X) noW E it1))
    (hg1 : ∀ (s : Shared) (H : Hp) (C : Addr) (cl : List (Str × Addr)) (fp : List Addr), PG (X.blk s H scope (compEnvC scope cl C X.env) fp) te1 (gTg X.K tg1))
    (ht1 : ∀ (s : Shared) (H : Hp) (C : Addr) (cl : List (Str × Addr)) (fp : List Addr), PTs (X.blk s H scope (compEnvC scope cl C X.env) fp) fs1 (tAs (sy X) noW E ifs1))
    (he : ∀ (s : Shared) (H : Hp) (C : Addr) (cl : List (Str × Addr)) (fp : List Addr), PE (X.blk s H scope (compEnvC scope cl C X.env) fp) elt (tE (sy X) noW E c)) (hs : ∀ x, foldedSetIterable iter X.env x = pure x) (hs1 : ∀ env x, foldedSetIterable iter1 env x = pure x) :
    PE X (.ListComp elt [⟨te, iter, fs, 0⟩, ⟨te1, iter1, fs1, 0⟩] scope pos) (tE (sy X) W E (.lc2 m vs vs1 tg it ifs tg1 it1 ifs1 c)) := by
  refine PE.imp (pe_lc2 (vs1 := vs1) o.calm o.nd hi (blkOk_by hb) (fun i hi => ?_) hg ht hi1 hg1 ht1 he hs hs1) fun σ H Q q => lc2_rd htg htg1 q
  rw [List.map_map]
  have z := List.all_eq_true.mp hvs i hi
  simpa using z
end
end EV

set_option Elab.async false
set_option linter.all false
set_option maxRecDepth 100000
set_option maxHeartbeats 4000000
/-! EV S: sorted(set(ints)). -/
namespace EV
open PySem PySem.Spec PyProof.Rows L2
abbrev emS (w : World) : Obj := { cls := .type "set", dict := none, data := .set #[] 0 (.fresh 0 0 (!w.params.followText "set-order")) }
section
variable {P : Program} {w : World} {A : Around} {E : Value → Shared → Prop} {s : Shared}
theorem set_of_lst {l : Addr} {items : Array Value} (ns : List Int) {Q : Value → Shared → Prop} (hh : A.handled = none) (hl : s.heap.IsList l items) (hit : IntsAre items.toList ns) (hb : ns.length + 1 < scanBound)
    (hq : ∀ (h2 : Heap) (tk c : Nat), SetR w h2 s.heap.objs.size (fun j => decide (j ∈ ns)) c → c ≤ ns.length → (∀ b o, s.heap.get? b = some o → h2.get? b = some o) → Q (.ref s.heap.objs.size) { s with heap := h2, toks := tk }) :
    wpAny (model P w) A (call (.type "set") [.ref l]) Q E s := by
  have isz : items.size = ns.length := by have q := IntsAre.length hit; rw [Array.length_toList] at q; exact q
  obtain ⟨c0, tl0, m0⟩ := F.called_set.mro
  have m1 := F.called_set.made; have m2 := F.called_set.sub
  refine wpAny_call (codeAny_of_tree ?_); show wpAny _ _ (callAny (.type "set") _) _ _ _
  refine wpAny_pure ⟨Code.quiet_builtin _ (by decide +kernel), codeAny_builtin F.entry_type_call ?_⟩ ; rw [Around.under_plain (weight_type_call_type "set" [.ref l] []) rfl]
  have n1 := F.called_set.notType; have n2 := F.called_set.canCreate; have n3 := F.typeCall_set_1 (.ref l)
  repeat (any_goals (first | assumption | wp_step))
  refine codeAny_mono (code_set_led1 (.ref l) (E := E) (Q₁ := fun ob s1 => ob = .ref s.heap.objs.size ∧ s1 = { s with heap := s.heap.push (emS w) }) ⟨rfl, rfl⟩) fun r s1 hr => ?_
  cases r with
  | error e => exact hr
  | ok fl =>
    cases fl with
    | ret ob =>
      obtain ⟨rfl, rfl⟩ := hr
      have gS : (s.heap.push (emS w)).get? s.heap.objs.size = some (emS w) := Heap.get?_push_size _ rfl
      have tS : Shared.TypeIs { s with heap := s.heap.push (emS w) } (.ref s.heap.objs.size) "set" := ⟨_, gS, rfl⟩
      have i1 := F.called_set.init.lookup; have i2 := F.called_set.init.bind (.ref s.heap.objs.size)
      repeat (any_goals (first | assumption | wp_step))
      refine codeAny_mono (codeAny_call_builtin (R := wants (fun r s2 => r = .none ∧ ∃ h2 tk c, s2 = { s with heap := h2, toks := tk } ∧ SetR w h2 s.heap.objs.size (fun j => decide (j ∈ ns)) c ∧ c ≤ ns.length ∧ (∀ b o, s.heap.get? b = some o → h2.get? b = some o)) E) F.called_set.init.plain F.entry_set_init (check_set_init_1 tS ?_)) fun r2 s2 hr2 => ?_
      · obtain ⟨ol, gl, cl, nl, dl⟩ := hl
        obtain ⟨ocls, odict, odata, oslots⟩ := ol
        simp only at cl dl
        subst cl; subst dl
        have gl2 : (s.heap.push (emS w)).get? l = some { cls := .type "list", dict := odict, data := .seq items nl, slots := oslots } := Heap.get?_push_of_some _ gl
        have z1 := F.sub_list_set; have z2 := F.sub_list_frozenset
        have z3 : (Value.type "list" == Value.type "dict") = false := by decide
        have il : (s.heap.push (emS w)).IsList l items := ⟨_, gl2, rfl, nl, rfl⟩
        unfold Builtin.«set.__init__» noKeywords Builtin.Frozenset.updateFrom
        generalize hPI : pyIter = PI
        wp_walk
        subst hPI
        refine wpAny_pyIter_list il ?_
        refine wpAny_bind (wpAny_runValue ?_)
        have lt : l < s.heap.objs.size := Heap.lt_size gl
        have h3 : A.in1.in1.in1.handled = none := by simp [hh]
        have neI : l ≠ (s.heap.push (emS w)).objs.size := by rw [Heap.size_push]; exact Nat.ne_of_lt (Nat.lt_succ_of_lt lt)
        have nf : s.heap.objs.size ∉ [(s.heap.push (emS w)).objs.size, l] := by
          rw [Heap.size_push]; simp only [List.mem_cons, List.mem_singleton, List.not_mem_nil, or_false, not_or]; exact ⟨Nat.ne_of_lt (Nat.lt_succ_self _), Nat.ne_of_gt lt⟩
        have val : ∀ (i : Nat) (v : Value), items[i]? = some v → ∃ k t, ns[i]? = some k ∧ v = .int k t := fun i v hv => by
          have hi : i < ns.length := by rw [← isz]; exact (Array.getElem?_eq_some_iff.mp hv).1
          obtain ⟨t, e⟩ := PyProof.Rows.IntsAre.int_at hit i v (by rw [Array.getElem?_toList]; exact hv)
          refine ⟨ns[i], t, List.getElem?_eq_getElem hi, ?_⟩ ; rw [e, List.getD_eq_getElem?_getD, List.getElem?_eq_getElem hi] <;> rfl
        refine set_update_ints ((Walks.list h3 _ l neI items).toS) s.heap.objs.size nf ns isz hb val (items.size - 0) 0 _ (by omega) (Nat.zero_le _) ⟨⟨_, Heap.get?_push_size _ rfl, rfl, rfl⟩, (il.push _)⟩ ?hSet ?hRes
        case hSet =>
          have g0 : ((s.heap.push (emS w)).push { cls := .type "list_iterator", data := .fields #[.ref l, .int 0 0] }).get? s.heap.objs.size = some (emS w) := Heap.get?_push_of_some _ gS
          exact ⟨0, Nat.le_refl 0, setR_new_at g0⟩
        case hRes =>
          intro s4 c4 hm hc4 hS4
          obtain ⟨h4, g4, d4, tk4, os4⟩ := s4
          have e1 : g4 = s.gens := hm.gens
          have e2 : d4 = s.drawn := hm.drawn
          have e3 : os4 = s.os := hm.os
          subst e1; subst e2; subst e3
          show wpAny _ _ _ _ _ _
          refine wpAny_pure ?_
          show wpAny _ _ (ret Value.none) _ _ _
          rw [isz] at hc4
          refine wpAny_pure ⟨rfl, h4, tk4, c4, rfl, hS4, hc4, fun b o e => ?_⟩
          have b0 : b < s.heap.objs.size := Heap.lt_size e
          have b1 : b ≠ s.heap.objs.size := Nat.ne_of_lt b0
          have b2 : b ≠ (s.heap.push (emS w)).objs.size := by rw [Heap.size_push]; exact Nat.ne_of_lt (Nat.lt_succ_of_lt b0)
          exact hm.heap b o (by simp only [List.mem_cons, List.mem_singleton, List.not_mem_nil, or_false, not_or]; exact ⟨b1, b2⟩) (Heap.get?_push_of_some _ (Heap.get?_push_of_some _ e))
      · cases r2 with
        | error e => exact hr2
        | ok fl2 =>
          cases fl2 with
          | ret r =>
            obtain ⟨rfl, h2, tk, c4, rfl, hS4, hc4, hk4⟩ := hr2
            repeat (any_goals (first | assumption | wp_step))
            exact hq _ _ _ hS4 hc4 hk4
          | _ => exact hr2.elim
    | _ => exact hr.elim
end
end EV

set_option Elab.async false
set_option linter.all false
set_option maxRecDepth 100000
set_option maxHeartbeats 4000000
/-! EV T: sorted(set(ints)), the rule. -/
namespace EV
open PySem PySem.Spec PyProof.Rows L2
theorem ints_mem_ded : ∀ {is : List Int} {k : Int}, k ∈ dedI is ↔ k ∈ is
  | [], k => by simp [dedI]
  | i :: is, k => by
    unfold dedI
    split
    · rename_i h
      rw [ints_mem_ded (is := is)]
      constructor
      · exact fun z => List.mem_cons_of_mem _ z
      · intro z
        rcases List.mem_cons.mp z with rfl | z
        · simpa using h
        · exact z
    · rw [List.mem_cons, List.mem_cons, ints_mem_ded (is := is)]
theorem ded_nodup : ∀ is : List Int, (dedI is).Nodup
  | [] => List.nodup_nil
  | i :: is => by
    unfold dedI
    split
    · exact ded_nodup is
    · rename_i h
      refine List.nodup_cons.mpr ⟨fun z => h ?_, ded_nodup is⟩
      simpa using ints_mem_ded.mp z
theorem lt_of_le_nodup : ∀ {l : List Int}, l.Pairwise (· ≤ ·) → l.Nodup → l.Pairwise (· < ·)
  | [], _, _ => List.Pairwise.nil
  | i :: is, h, n => by
    obtain ⟨h1, h2⟩ := List.pairwise_cons.mp h
    obtain ⟨n1, n2⟩ := List.nodup_cons.mp n
    refine List.pairwise_cons.mpr ⟨fun j hj => ?_, lt_of_le_nodup h2 n2⟩
    have := h1 j hj
    have ne : i ≠ j := fun e => n1 (e ▸ hj)
    omega
theorem lt_unique : ∀ {a b : List Int}, a.Pairwise (· < ·) → b.Pairwise (· < ·) → (∀ k, k ∈ a ↔ k ∈ b) → a = b
  | [], [], _, _, _ => rfl
  | [], j :: b, _, _, h => by have := (h j).mpr (List.mem_cons_self ..); simp at this
  | i :: a, [], _, _, h => by have := (h i).mp (List.mem_cons_self ..); simp at this
  | i :: a, j :: b, ha, hb, h => by
    obtain ⟨a1, a2⟩ := List.pairwise_cons.mp ha
    obtain ⟨b1, b2⟩ := List.pairwise_cons.mp hb
    have e : i = j := by
      rcases List.mem_cons.mp ((h i).mp (List.mem_cons_self ..)) with e | z
      · exact e
      · rcases List.mem_cons.mp ((h j).mpr (List.mem_cons_self ..)) with e | y
        · exact e.symm
        · have := b1 i z
          have := a1 j y
          omega
    subst e
    rw [lt_unique a2 b2 fun k => ⟨fun z => ?_, fun z => ?_⟩]
    · rcases List.mem_cons.mp ((h k).mp (List.mem_cons_of_mem _ z)) with e | y
      · have := a1 k z; omega
      · exact y
    · rcases List.mem_cons.mp ((h k).mpr (List.mem_cons_of_mem _ z)) with e | y
      · have := b1 k z; omega
      · exact y
def rSetL (K : PySem.W.Frag) (w : World) : List V → Hp → VK → Prop := fun xs H Q => ∃ (l : Addr) (ns : List Int), xs = [.ref l] ∧ SqL K H l (ns.map V.int) ∧ ns.length < 64 ∧ ∀ p c, H p = none → c ≤ ns.length → Q (.ref p) (upd H p (SetO w p (fun j => decide (j ∈ ns)) c))
section
variable {T : Tab} {E : Ev} {k : Nat} {X : Cx} {W : WX} {pos p p1 p2 : Pos}
theorem cr_setL (hc : X.calm = true) : CallR X (.type "set") (rSetL X.K X.w) := by
  intro pins s σ H xs us Q I r h
  obtain ⟨l, ns, rfl, hs, hn, q⟩ := h
  rw [Vals.ref1 r]
  obtain ⟨its, rv, ⟨ob, n, ho, oc, odn, od⟩, hlen⟩ := I.list hs
  refine set_of_lst (items := its.toArray) ns (I.ok.hd hc) ⟨ob, ho, oc, n, od⟩ (ints_of_vals rv) (by unfold scanBound; omega) fun h2 tk c R hcl ke => ?_
  have hn' : H s.heap.objs.size = none := I.hok.fresh (Nat.le_refl _)
  exact ⟨.ref _, _, I.laid ke (Nat.le_refl _) (setO_new R), rfl, q _ c hn' hcl⟩
theorem sd_srt {c : C} {x y : Str} {z : Expr} (o : Ok T E k X W) (hg : glB X.env.scope x = true) (hx : x = ("sorted" : Str)) (hg2 : glB X.env.scope y = true) (hy : y = ("set" : Str)) (hst : isStarE z = false) (he : PE X z (tE (sy X) W E c)) :
    PE X (.Call (.Name x p) [.Call (.Name y p1) [z] [] p2] [] pos) (tE (sy X) W E (.srt c)) := by
  subst hx hy
  obtain ⟨g1, g2⟩ := glB_ok hg
  obtain ⟨g3, g4⟩ := glB_ok hg2
  have pa1 : PA X [z] _ := pa_cons he pa_nil (starEach_no hst)
  have pe1 : PE X (.Call (.Name "set" p1) [z] [] p2) _ := pe_callTy (T := "set") (cr_setL o.calm) g3 o.set (by decide +kernel) pa1 (by decide +kernel) g4 (starEach_no hst) rfl
  refine PE.imp (pe_callB (id := "sorted") (cr_sortedSet o.calm) g1 (o.blt .sorted) (by decide +kernel) (pa_cons pe1 pa_nil (starEach_no rfl)) (by decide +kernel) g2 (starEach_no rfl) rfl) fun σ H Q ⟨r, L, hh, rl, rh, q⟩ => ⟨r, L, hh, rl, rh, (bindS (rel := RD (sy X)) q (Ext.refl _ _)).imp fun v H1 ⟨r1, d1, h1, _, e1, R1, hv, q1⟩ => ?_⟩
  have q1 : Post (sy X) (RD (sy X)) r H _ (srtS d1 h1) Q := q1
  unfold srtS at q1
  split at q1
  · rename_i xs qi
    obtain ⟨a, vs, rfl, l1, l2⟩ := R1.lstI hv qi
    split at q1
    · rename_i is ei
      split at q1
      · rename_i hb
        rw [ints_V l2 ei] at l1
        refine ⟨a, is, rfl, l1.sq, Nat.le_of_ble_eq_true hb, fun pa c na hc => ?_⟩
        have e2 := e1.trans (Ext.grow (r := r1) (u := SetO X.w pa (fun j => decide (j ∈ is)) c) na)
        have hb' : is.length < 64 := Nat.le_of_ble_eq_true hb
        refine ⟨pa, _, c, rfl, upd_same, by omega, fun ns pb hp hm hl nb => ?_⟩
        have en : ns = sortI (dedI is) := by
          refine lt_unique hp (lt_of_le_nodup (sortI_sorted _) ((sortI_perm _).nodup_iff.mpr (ded_nodup is))) fun j => ?_
          rw [hm j, (sortI_perm _).mem_iff, ints_mem_ded, decide_eq_true_eq]
        rw [en]
        exact ((q1.shift e2).pok noX_ok).lstF (R1.grow na) (rds_ints _) pb nb
      · exact q1.elim
    · exact q1.elim
  · exact q1.elim
end
end EV

set_option Elab.async false
set_option linter.all false
set_option maxRecDepth 100000
set_option maxHeartbeats 4000000
/-! EV 14: all expressions. -/
namespace EV
open PySem PySem.Spec PyProof.Rows L2

structure Res (X : Cx) (W : WX) (E : Ev) (c : C) (e : Expr) : Prop where
  pe : PE X e (tE (sy X) W E c)
  pt : PT X e (tT (sy X) W E c)
  pw : ∀ op xs pos, e = .BoolOp op xs pos → PW X e (tT (sy X) W E c)
theorem Res.of {X : Cx} {W : WX} {E : Ev} {c : C} {e : Expr} (h : PE X e (tE (sy X) W E c)) (ht : ∀ L hh, ex E c true L hh = tst true (ex E c false L hh)) (he : ∀ whole, isTrue e X.env whole = (do let v ← whole; standAt e.pos; holding [v] (PySem.truthy v))) (hb : ∀ op xs pos, e ≠ .BoolOp op xs pos) : Res X W E c e :=
  ⟨h, pt_of h ht he, fun op xs pos q => absurd q (hb op xs pos)⟩
theorem foldSet {e : Expr} {env : Env} (h : isSetE e = false) : ∀ x, foldedSetIterable e env x = pure x := fun x => by
  cases e <;> first | rfl | cases h
theorem dne {x y : Str} (h : (!decide (x = y)) = true) : (x == y) = false := by
  simp only [Bool.not_eq_true', decide_eq_false_iff_not] at h
  exact beq_eq_false_iff_ne.mpr h
mutual
theorem snE (T : Tab) (E : Ev) : ∀ (c : C) {k : Nat} {X : Cx} {W : WX} {e : Expr}, Ok T E k X W → okE T X.N c X.env.scope e = true → Res X W E c e
  | .var i, k, X, W, e, o, h => by
    simp only [okE] at h
    split at h
    · rename_i x pos
      simp only [Bool.and_eq_true, decide_eq_true_eq] at h
      exact .of (sd_var h.1.1.1 (visB_ok h.1.1.2) (dne h.1.2) (dne h.2)) (fun _ _ => rfl) (fun _ => rfl) (fun _ _ _ q => nomatch q)
    · cases h
  | .cint i, k, X, W, e, o, h => by
    simp only [okE] at h
    split at h
    · cases of_decide_eq_true h
      exact .of sd_int (fun _ _ => rfl) (fun _ => rfl) (fun _ _ _ q => nomatch q)
    · cases h
  | .cbl b, k, X, W, e, o, h => by
    simp only [okE] at h
    split at h
    · cases eq_of_beq h
      exact .of sd_bl (fun _ _ => rfl) (fun _ => rfl) (fun _ _ _ q => nomatch q)
    · cases h
  | .cnon, k, X, W, e, o, h => by
    simp only [okE] at h
    split at h
    · exact .of sd_non (fun _ _ => rfl) (fun _ => rfl) (fun _ _ _ q => nomatch q)
    · cases h
  | .cstr x, k, X, W, e, o, h => by
    simp only [okE] at h
    split at h
    · cases of_decide_eq_true h
      exact .of sd_str (fun _ _ => rfl) (fun _ => rfl) (fun _ _ _ q => nomatch q)
    · cases h
  | .glo i, k, X, W, e, o, h => by
    simp only [okE] at h
    split at h
    · simp only [Bool.and_eq_true, decide_eq_true_eq] at h
      exact .of (sd_glo o h.1 h.2) (fun _ _ => rfl) (fun _ => rfl) (fun _ _ _ q => nomatch q)
    · cases h
  | .tyv n, k, X, W, e, o, h => by
    simp only [okE] at h
    split at h
    · simp only [Bool.and_eq_true, decide_eq_true_eq] at h
      obtain ⟨⟨rfl, h1⟩, h2⟩ := h
      exact .of (sd_tyv o h1 h2) (fun _ _ => rfl) (fun _ => rfl) (fun _ _ _ q => nomatch q)
    · cases h
  | .bin op a b, k, X, W, e, o, h => by
    simp only [okE] at h
    split at h
    · simp only [Bool.and_eq_true, decide_eq_true_eq] at h
      obtain ⟨⟨rfl, h1⟩, h2⟩ := h
      exact .of (sd_bin (snE T E a o h1).pe (snE T E b o h2).pe) (fun _ _ => rfl) (fun _ => rfl) (fun _ _ _ q => nomatch q)
    · cases h
  | .neg a, k, X, W, e, o, h => by
    simp only [okE] at h
    split at h
    · exact .of (sd_neg (snE T E a o h).pe) (fun _ _ => rfl) (fun _ => rfl) (fun _ _ _ q => nomatch q)
    · cases h
  | .cmp op a b, k, X, W, e, o, h => by
    simp only [okE] at h
    split at h
    · simp only [Bool.and_eq_true, decide_eq_true_eq, Bool.not_eq_true'] at h
      obtain ⟨⟨⟨rfl, h0⟩, h1⟩, h2⟩ := h
      exact ⟨sd_cmp o h0 (snE T E a o h1).pe (snE T E b o h2).pe, td_cmp o h0 (snE T E a o h1).pe (snE T E b o h2).pe, fun _ _ _ q => nomatch q⟩
    · cases h
  | .chain op op2 a b c, k, X, W, e, o, h => by
    simp only [okE] at h
    split at h
    · simp only [Bool.and_eq_true, decide_eq_true_eq, Bool.not_eq_true'] at h
      obtain ⟨⟨⟨⟨⟨⟨rfl, rfl⟩, h0⟩, h00⟩, h1⟩, h2⟩, h3⟩ := h
      exact ⟨sd_chain o h00 (snE T E a o h1).pe (snE T E b o h2).pe (snE T E c o h3).pe, td_chain o h00 (snE T E a o h1).pe (snE T E b o h2).pe (snE T E c o h3).pe, fun _ _ _ q => nomatch q⟩
    · cases h
  | .and a b, k, X, W, e, o, h => by
    simp only [okE] at h
    split at h
    · rename_i pos
      simp only [Bool.and_eq_true] at h
      have ha := snE T E a o h.1
      have hb := snE T E b o h.2
      have w : PW X _ (tT (sy X) W E (.and a b)) := PW.imp (pw_and (pos := pos) ha.pt (pw_and1 hb.pt)) fun σ H Q q => and_rt q
      exact ⟨PE.imp (pe_and ha.pe (pe_one hb.pe)) fun σ H Q q => and_rd q, w.pt, fun _ _ _ _ => w⟩
    · simp only [Bool.and_eq_true] at h
      have ha := snE T E a o h.1
      have hb := snE T E b o h.2
      have w : PW X _ (tT (sy X) W E (.and a b)) := PW.imp (pw_and ha.pt (hb.pw _ _ _ rfl)) fun σ H Q q => and_rt q
      exact ⟨PE.imp (pe_and ha.pe hb.pe) fun σ H Q q => and_rd q, w.pt, fun _ _ _ _ => w⟩
    · cases h
  | .or a b, k, X, W, e, o, h => by
    simp only [okE] at h
    split at h
    · rename_i pos
      simp only [Bool.and_eq_true] at h
      have ha := snE T E a o h.1
      have hb := snE T E b o h.2
      have w : PW X _ (tT (sy X) W E (.or a b)) := PW.imp (pw_or (pos := pos) ha.pt (pw_or1 hb.pt)) fun σ H Q q => or_rt q
      exact ⟨PE.imp (pe_or ha.pe (pe_one hb.pe)) fun σ H Q q => or_rd q, w.pt, fun _ _ _ _ => w⟩
    · simp only [Bool.and_eq_true] at h
      have ha := snE T E a o h.1
      have hb := snE T E b o h.2
      have w : PW X _ (tT (sy X) W E (.or a b)) := PW.imp (pw_or ha.pt (hb.pw _ _ _ rfl)) fun σ H Q q => or_rt q
      exact ⟨PE.imp (pe_or ha.pe hb.pe) fun σ H Q q => or_rd q, w.pt, fun _ _ _ _ => w⟩
    · cases h
  | .not a, k, X, W, e, o, h => by
    simp only [okE] at h
    split at h
    · have ha := snE T E a o h
      exact ⟨sd_not ha.pe, PT.imp (pt_not ha.pt) fun σ H Q q => not_rt q, fun _ _ _ q => nomatch q⟩
    · cases h
  | .ife t a b, k, X, W, e, o, h => by
    simp only [okE] at h
    split at h
    · simp only [Bool.and_eq_true] at h
      obtain ⟨⟨h1, h2⟩, h3⟩ := h
      have ht := snE T E t o h1
      have ha := snE T E a o h2
      have hb := snE T E b o h3
      exact ⟨PE.imp (pe_ifExp ht.pt ha.pe hb.pe) fun σ H Q q => ife_rd q, st_ife ht.pt ha.pt hb.pt, fun _ _ _ q => nomatch q⟩
    · cases h
  | .tup es, k, X, W, e, o, h => by
    simp only [okE] at h
    split at h
    · exact .of (sd_tup (snA T E es o h)) (fun _ _ => rfl) (fun _ => rfl) (fun _ _ _ q => nomatch q)
    · cases h
  | .lst m es, k, X, W, e, o, h => by
    simp only [okE] at h
    split at h
    · exact .of (sd_lst (snA T E es o h)) (fun _ _ => rfl) (fun _ => rfl) (fun _ _ _ q => nomatch q)
    · cases h
  | .dnew, k, X, W, e, o, h => by
    simp only [okE] at h
    split at h
    · exact .of sd_dnew (fun _ _ => rfl) (fun _ => rfl) (fun _ _ _ q => nomatch q)
    · cases h
  | .dvals a, k, X, W, e, o, h => by
    simp only [okE] at h
    split at h
    · simp only [Bool.and_eq_true, decide_eq_true_eq, Bool.not_eq_true'] at h
      obtain ⟨⟨⟨⟨⟨h1, rfl⟩, rfl⟩, h2⟩, h3⟩, h4⟩ := h
      exact .of (sd_dvals o h1 (snE T E a o h2).pe h3 h4) (fun _ _ => rfl) (fun _ => rfl) (fun _ _ _ q => nomatch q)
    · cases h
  | .call f sh es ks, k, X, W, e, o, h => by
    simp only [okE] at h
    split at h
    · simp only [Bool.and_eq_true, decide_eq_true_eq] at h
      obtain ⟨⟨⟨⟨⟨⟨h1, h2⟩, h3⟩, h4⟩, h5⟩, h6⟩, h7⟩ := h
      split at h7
      · rename_i g n kn sl hsh
        simp only [Bool.and_eq_true, decide_eq_true_eq] at h7
        obtain ⟨⟨h8, h9⟩, h10⟩ := h7
        cases Nat.eq_of_beq_eq_true h8
        exact .of (sd_call o h1 h2 hsh (Nat.eq_of_beq_eq_true h9) h10 h3 h4 h6 h5 (snA T E es o h4) (snK T E ks o h5)) (fun _ _ => rfl) (fun _ => rfl) (fun _ _ _ q => nomatch q)
      · cases h7
    · cases h
  | .blt f es, k, X, W, e, o, h => by
    simp only [okE] at h
    split at h
    · simp only [Bool.and_eq_true, decide_eq_true_eq] at h
      obtain ⟨⟨⟨h1, rfl⟩, h3⟩, h4⟩ := h
      exact .of (sd_blt o h1 h3 h4 (snA T E es o h4)) (fun _ _ => rfl) (fun _ => rfl) (fun _ _ _ q => nomatch q)
    · cases h
  | .met a m es, k, X, W, e, o, h => by
    simp only [okE] at h
    split at h
    · simp only [Bool.and_eq_true, decide_eq_true_eq, Bool.not_eq_true'] at h
      obtain ⟨⟨⟨⟨⟨⟨rfl, h1⟩, h2⟩, h3⟩, h4⟩, h5⟩, h6⟩ := h
      exact .of (sd_met o (snE T E a o h2).pe h3 h1 h4 h5 h6 (snA T E es o h4)) (fun _ _ => rfl) (fun _ => rfl) (fun _ _ _ q => nomatch q)
    · cases h
  | .sub a b, k, X, W, e, o, h => by
    simp only [okE] at h
    split at h
    · simp only [Bool.and_eq_true, Bool.not_eq_true'] at h
      obtain ⟨⟨h0, h1⟩, h2⟩ := h
      exact .of (sd_sub h0 (snE T E a o h1).pe (snE T E b o h2).pe) (fun _ _ => rfl) (fun _ => rfl) (fun _ _ _ q => nomatch q)
    · cases h
  | .slc a lo hi, k, X, W, e, o, h => by
    simp only [okE] at h
    split at h
    · rename_i v l u p2 p1
      simp only [Bool.and_eq_true] at h
      obtain ⟨⟨h1, h2⟩, h3⟩ := h
      have hl : PO X l (tO (sy X) W E lo) := po_of (fun x q => by
        subst q
        refine ⟨?_, (snE T E lo o h2).pe⟩
        cases lo <;> first | rfl | (simp only [okE] at h2; cases h2)) fun q => by subst q; exact h2
      have hu : PO X u (tO (sy X) W E hi) := po_of (fun x q => by
        subst q
        refine ⟨?_, (snE T E hi o h3).pe⟩
        cases hi <;> first | rfl | (simp only [okE] at h3; cases h3)) fun q => by subst q; exact h3
      exact .of (sd_slc (snE T E a o h1).pe hl hu) (fun _ _ => rfl) (fun _ => rfl) (fun _ _ _ q => nomatch q)
    · cases h
  | .bad, k, X, W, e, o, h => by
    have z : ∀ b L hh, ex E .bad b L hh = .bad := fun b L hh => by simp only [ex]
    refine ⟨⟨fun _ _ _ _ _ _ ⟨r, L, hh, _, _, q⟩ => ?_⟩, ⟨fun _ _ _ _ _ _ ⟨r, L, hh, _, _, q⟩ => ?_⟩, fun _ _ _ _ => ⟨fun _ _ _ _ _ _ _ ⟨r, L, hh, _, _, q⟩ => ?_⟩⟩ <;> (rw [z] at q; exact q.elim)
  | .no, k, X, W, e, o, h => by
    simp only [okE] at h
    cases h
  | .srt c, k, X, W, e, o, h => by
    simp only [okE] at h
    split at h
    · simp only [Bool.and_eq_true, Bool.not_eq_true', decide_eq_true_eq] at h
      obtain ⟨⟨⟨⟨⟨h1, h2⟩, h3⟩, h4⟩, h5⟩, h6⟩ := h
      exact .of (sd_srt o h1 h2 h3 h4 h5 (snE T E c o h6).pe) (fun _ _ => rfl) (fun _ => rfl) (fun _ _ _ q => nomatch q)
    · cases h
  | .lc2 m vs vs1 tg it ifs tg1 it1 ifs1 c, k, X, W, e, o, h => by
    simp only [okE] at h
    split at h
    · rename_i elt te iter fs te1 iter1 fs1 scope pos
      simp only [Bool.and_eq_true, Bool.not_eq_true'] at h
      obtain ⟨⟨⟨⟨⟨⟨⟨⟨⟨⟨⟨⟨h1, h2⟩, h3⟩, h4⟩, h5⟩, h6⟩, h7⟩, h8⟩, h9⟩, h10⟩, h11⟩, h12⟩, h13⟩ := h
      exact .of (sd_lc2 o h1 h9 h4 h8 (snI T E it o h2)
        (fun s H C cl fp => pg_of (X := X.blk s H scope (compEnvC scope cl C X.env) fp) o.calm o.nd (fun x hx => hx) h3)
        (fun s H C cl fp => snF T E ifs (X := X.blk s H scope (compEnvC scope cl C X.env) fp) (o.blk s H scope (compEnvC scope cl C X.env) fp) h5)
        (fun s H C cl fp => snI T E it1 (X := X.blk s H scope (compEnvC scope cl C X.env) fp) (o.blk s H scope (compEnvC scope cl C X.env) fp) h6)
        (fun s H C cl fp => pg_of (X := X.blk s H scope (compEnvC scope cl C X.env) fp) o.calm o.nd (fun x hx => hx) h7)
        (fun s H C cl fp => snF T E ifs1 (X := X.blk s H scope (compEnvC scope cl C X.env) fp) (o.blk s H scope (compEnvC scope cl C X.env) fp) h10)
        (fun s H C cl fp => (snE T E c (X := X.blk s H scope (compEnvC scope cl C X.env) fp) (o.blk s H scope (compEnvC scope cl C X.env) fp) h11).pe) (foldSet h12) (fun env => foldSet h13)) (fun _ _ => rfl) (fun _ => rfl) (fun _ _ _ q => nomatch q)
    · cases h
  | .rep es j, k, X, W, e, o, h => by
    simp only [okE] at h
    split at h
    · simp only [Bool.and_eq_true, decide_eq_true_eq] at h
      obtain ⟨rfl, h1⟩ := h
      exact .of (sd_rep (snA T E es o h1)) (fun _ _ => rfl) (fun _ => rfl) (fun _ _ _ q => nomatch q)
    · cases h
  | .att c f, k, X, W, e, o, h => by
    simp only [okE] at h
    split at h
    · simp only [Bool.and_eq_true, Bool.not_eq_true', decide_eq_true_eq] at h
      obtain ⟨⟨rfl, h1⟩, h2⟩ := h
      exact .of (sd_att o (snE T E c o h1).pe h2) (fun _ _ => rfl) (fun _ => rfl) (fun _ _ _ q => nomatch q)
    · cases h
  | .new c sh es ks, k, X, W, e, o, h => by
    simp only [okE] at h
    split at h
    · simp only [Bool.and_eq_true, decide_eq_true_eq] at h
      obtain ⟨⟨⟨⟨⟨⟨h1, h2⟩, h3⟩, h4⟩, h5⟩, h6⟩, h7⟩ := h
      split at h7
      · rename_i g n kn sl hsh
        simp only [Bool.and_eq_true, decide_eq_true_eq] at h7
        obtain ⟨⟨z1, z2⟩, z3⟩ := h7
        exact .of (sd_new o h1 h2 hsh z1 (Nat.eq_of_beq_eq_true z2) z3 h3 h4 h6 h5 (snA T E es o h4) (snK T E ks o h5)) (fun _ _ => rfl) (fun _ => rfl) (fun _ _ _ q => nomatch q)
      · cases h7
    · cases h
  | .olen c, k, X, W, e, o, h => by
    simp only [okE] at h
    split at h
    · simp only [Bool.and_eq_true, Bool.not_eq_true', decide_eq_true_eq] at h
      obtain ⟨⟨⟨h1, rfl⟩, h2⟩, h3⟩ := h
      exact .of (sd_olen o h1 h2 (snE T E c o h3).pe) (fun _ _ => rfl) (fun _ => rfl) (fun _ _ _ q => nomatch q)
    · cases h
  | .oin a c, k, X, W, e, o, h => by
    simp only [okE] at h
    split at h
    · simp only [Bool.and_eq_true, Bool.not_eq_true'] at h
      obtain ⟨⟨h1, h2⟩, h3⟩ := h
      exact ⟨sd_oin o h1 (snE T E a o h2).pe (snE T E c o h3).pe, td_oin o h1 (snE T E a o h2).pe (snE T E c o h3).pe, fun op xs pos q => nomatch q⟩
    · cases h
  | .isO a c, k, X, W, e, o, h => by
    simp only [okE] at h
    split at h
    · simp only [Bool.and_eq_true, Bool.not_eq_true', decide_eq_true_eq] at h
      obtain ⟨⟨⟨⟨⟨h1, rfl⟩, h2⟩, h3⟩, h4⟩, h5⟩ := h
      exact .of (sd_isO o h1 h4 h5 h2 (snE T E a o h3).pe) (fun _ _ => rfl) (fun _ => rfl) (fun _ _ _ q => nomatch q)
    · cases h
  | .lc m vs tg it ifs c, k, X, W, e, o, h => by
    simp only [okE] at h
    split at h
    · rename_i elt te iter fs scope pos
      simp only [Bool.and_eq_true, Bool.not_eq_true'] at h
      obtain ⟨⟨⟨⟨⟨⟨h1, h2⟩, h3⟩, h4⟩, h5⟩, h6⟩, h7⟩ := h
      exact .of (sd_lc o h1 h4 (snI T E it o h2)
        (fun s H C cl fp => pg_of (X := X.blk s H scope (compEnvC scope cl C X.env) fp) o.calm o.nd (fun x hx => hx) h3)
        (fun s H C cl fp => snF T E ifs (X := X.blk s H scope (compEnvC scope cl C X.env) fp) (o.blk s H scope (compEnvC scope cl C X.env) fp) h5)
        (fun s H C cl fp => (snE T E c (X := X.blk s H scope (compEnvC scope cl C X.env) fp) (o.blk s H scope (compEnvC scope cl C X.env) fp) h6).pe) (foldSet h7)) (fun _ _ => rfl) (fun _ => rfl) (fun _ _ _ q => nomatch q)
    · cases h
theorem snA (T : Tab) (E : Ev) : ∀ (cs : Cs) {k : Nat} {X : Cx} {W : WX} {es : List Expr}, Ok T E k X W → oks T X.N cs X.env.scope es = true → PA X es (tA (sy X) W E cs)
  | .nil, k, X, W, es, o, h => by
    simp only [oks] at h
    split at h
    · exact sa_nil
    · cases h
  | .cons c r, k, X, W, es, o, h => by
    simp only [oks] at h
    split at h
    · simp only [Bool.and_eq_true, Bool.not_eq_true'] at h
      exact sa_cons h.1.1 (snE T E c o h.1.2).pe (snA T E r o h.2)
    · cases h
  | .star c r, k, X, W, es, o, h => by
    simp only [oks] at h
    split at h
    · simp only [Bool.and_eq_true] at h
      exact sa_star (snE T E c o h.1).pe (snA T E r o h.2)
    · cases h
theorem snK (T : Tab) (E : Ev) : ∀ (cs : Cs) {k : Nat} {X : Cx} {W : WX} {es : List Keyword}, Ok T E k X W → okK T X.N cs X.env.scope es = true → PK X es (tA (sy X) W E cs)
  | .nil, k, X, W, es, o, h => by
    simp only [okK] at h
    split at h
    · exact sk_nil
    · cases h
  | .cons c r, k, X, W, es, o, h => by
    simp only [okK] at h
    split at h
    · simp only [Bool.and_eq_true] at h
      exact sk_cons (snE T E c o h.1).pe (snK T E r o h.2)
    · cases h
  | .star c r, k, X, W, es, o, h => by
    simp only [okK] at h
    cases h
theorem snI (T : Tab) (E : Ev) : ∀ (it : It) {k : Nat} {X : Cx} {W : WX} {t e : Expr}, Ok T E k X W → okI T X.N it X.env.scope t e = true → PI X t e (tI (sy X) W E it)
  | .of c, k, X, W, t, e, o, h => by
    simp only [okI] at h
    exact si_of (snE T E c o h).pe
  | .rng cs, k, X, W, t, e, o, h => by
    simp only [okI] at h
    split at h
    · simp only [Bool.and_eq_true, decide_eq_true_eq] at h
      obtain ⟨⟨⟨⟨h1, rfl⟩, h2⟩, h3⟩, h4⟩ := h
      exact si_rng o h1 h2 h3 h4 (snA T E cs o h3)
    · cases h
  | .enum c, k, X, W, t, e, o, h => by
    simp only [okI] at h
    split at h
    · simp only [Bool.and_eq_true, decide_eq_true_eq, Bool.not_eq_true'] at h
      obtain ⟨⟨⟨⟨h1, rfl⟩, h2⟩, h3⟩, h4⟩ := h
      cases t <;> first | (cases h2; done) | skip
      exact si_enum o h1 h3 (snE T E c o h4).pe
    · cases h
  | .zip a b, k, X, W, t, e, o, h => by
    simp only [okI] at h
    split at h
    · simp only [Bool.and_eq_true, decide_eq_true_eq, Bool.not_eq_true'] at h
      obtain ⟨⟨⟨⟨⟨⟨h1, rfl⟩, h2⟩, h3⟩, h4⟩, h5⟩, h6⟩ := h
      cases t <;> first | (cases h2; done) | skip
      exact si_zip o h1 h3 h4 (snE T E a o h5).pe (snE T E b o h6).pe
    · cases h
theorem snF (T : Tab) (E : Ev) : ∀ (cs : Cs) {k : Nat} {X : Cx} {W : WX} {es : List Expr}, Ok T E k X W → okF T X.N cs X.env.scope es = true → PTs X es (tAs (sy X) W E cs)
  | .nil, k, X, W, es, o, h => by
    simp only [okF] at h
    split at h
    · exact sf_nil
    · cases h
  | .cons c .nil, k, X, W, es, o, h => by
    simp only [okF] at h
    split at h
    · exact sf_one (snE T E c o h).pt
    · cases h
  | .cons c (.cons _ _), k, X, W, es, o, h => by
    simp only [okF] at h
    cases h
  | .cons c (.star _ _), k, X, W, es, o, h => by
    simp only [okF] at h
    cases h
  | .star c r, k, X, W, es, o, h => by
    simp only [okF] at h
    cases h
end
end EV

set_option Elab.async false
set_option linter.all false
set_option maxRecDepth 100000
set_option maxHeartbeats 4000000
/-! EV 15: statements. -/
namespace EV
open PySem PySem.Spec PyProof.Rows L2

def PostS (Y : Sy) (W : WX) (r : Rg) (H : Hp) (D : Ends) : SR → Prop
  | .next L h => ∀ r' H' σ', Ext r H r' H' → RelH Y r' H' h → RelL Y r' H' σ' L → D.nx σ' H'
  | .ret d h => ∀ r' H' v, Ext r H r' H' → RelH Y r' H' h → RD Y r' H' d v → D.rt v H'
  | .brk L h => ∀ r' H' σ', Ext r H r' H' → RelH Y r' H' h → RelL Y r' H' σ' L → D.bk σ' H'
  | .cont L h => ∀ r' H' σ', Ext r H r' H' → RelH Y r' H' h → RelL Y r' H' σ' L → D.ct σ' H'
  | .exc c x L h => ∀ r' H' σ' cls d, Ext r H r' H' → RelH Y r' H' h → RelL Y r' H' σ' L → RX Y r' H' c x cls d → W cls d σ' H'
  | .bad => False
theorem PostS.shift {Y : Sy} {W : WX} {r r1 : Rg} {H H1 : Hp} {D : Ends} {res : SR} (p : PostS Y W r H D res) (e : Ext r H r1 H1) : PostS Y W r1 H1 D res := by
  cases res with
  | next L h => exact fun r' H' σ' e' => p r' H' σ' (e.trans e')
  | ret d h => exact fun r' H' v e' => p r' H' v (e.trans e')
  | brk L h => exact fun r' H' σ' e' => p r' H' σ' (e.trans e')
  | cont L h => exact fun r' H' σ' e' => p r' H' σ' (e.trans e')
  | exc c x L h => exact fun r' H' σ' cls d e' => p r' H' σ' cls d (e.trans e')
  | bad => exact p
def tS (Y : Sy) (W : WX) (E : Ev) (s : S) : TS := fun D σ H => ∃ r L h, RelL Y r H σ L ∧ RelH Y r H h ∧ PostS Y W r H D (exS E s L h)
def tSs (Y : Sy) (W : WX) (E : Ev) (s : Ss) : TS := fun D σ H => ∃ r L h, RelL Y r H σ L ∧ RelH Y r H h ∧ PostS Y W r H D (exSs E s L h)
theorem thenP {α β : Type} {Y : Sy} {W : WX} {rel : Rg → Hp → α → β → Prop} {r r1 : Rg} {H H1 : Hp} {D : Ends} {res : R α} {L : Lc} {f : α → Hs → SR} {σ : L2.St} (p : PostS Y W r H D (thenS L res f)) (e1 : Ext r H r1 H1) (rl : RelL Y r H σ L) :
    Post Y rel r1 H1 (fun cls d H' => W cls d σ H') res (fun b H2 => ∃ r2 a h2, res = .ok a h2 ∧ Ext r1 H1 r2 H2 ∧ RelH Y r2 H2 h2 ∧ rel r2 H2 a b ∧ PostS Y W r H D (f a h2)) := by
  cases res with
  | ok a h' => exact fun r' H' b e R q => ⟨r', a, h', rfl, e, R, q, p⟩
  | exc c x h' => exact fun r' H' cls d e R x => p r' H' σ cls d (e1.trans e) R (rl.mono (e1.trans e)) x
  | bad => exact p.elim
theorem asB_thenP {Y : Sy} {W : WX} {r : Rg} {H : Hp} {D : Ends} {res : R EV.D} {L : Lc} {f : Bool → Hs → SR} {σ : L2.St} (p : PostS Y W r H D (thenS L (asB res) f)) (rl : RelL Y r H σ L) :
    Post Y relB r H (fun cls d H' => W cls d σ H') res (fun b H2 => ∃ r2 h2, Ext r H r2 H2 ∧ RelH Y r2 H2 h2 ∧ PostS Y W r H D (f b h2)) := by
  cases res with
  | bad => exact p.elim
  | exc c x h => exact fun r' H' cls d e R x => p r' H' σ cls d e R (rl.mono e) x
  | ok d h =>
    intro r' H' b e R hb
    have hb : d = .bl b := hb
    subst hb
    exact ⟨r', h, e, R, p⟩
/-- what is known where statements run -/
structure OkS (T : Tab) (E : Ev) (k : Nat) (X : Cx) (W : WX) : Prop extends Ok T E k X W where
  hp : PassesOwn (model X.prog X.w) X.A X.env X.xe
  fn : ∀ x, X.fn x = true
  kind : X.env.scope.kind = .function
  stk : X.stack = X.env :: X.outer
  frm : X.env.frame = some X.env.locals
theorem OkS.tr {T : Tab} {E : Ev} {k : Nat} {X : Cx} {W W' : WX} (o : OkS T E k X W) {pn : List (Addr × Obj)} {xe : Value → Shared → Prop} (tk : Takes (X.tr pn xe) W') (hp : PassesOwn (model X.prog X.w) X.A X.env xe) : OkS T E k (X.tr pn xe) W' :=
  ⟨⟨o.calm, tk, o.room, o.nd, o.blt, o.typ, o.rng, o.enu, o.zip, o.glo, o.fns, o.set, o.obj, o.cnm, fun cl hc he C hC => let q := o.cls cl hc he C hC; ⟨q.ck, q.prp, q.mth, q.ini⟩, o.xcs, o.crf⟩, hp, o.fn, o.kind, o.stk, o.frm⟩

/-! ### checks -/
def isCompE : Expr → Bool
  | .ListComp .. => true
  | .SetComp .. => true
  | .DictComp .. => true
  | _ => false
def fbT : Str → Bool := fun _ => true
/-- no stores in turn -/
def noSwap (t : Expr) (v : Expr) : Bool := match t, v with
  | .Name _ _, _ => true
  | .Tuple ts _ _, .Tuple _ _ _ => decide (3 < ts.length)
  | .Tuple _ _ _, .BoolOp _ _ _ => false
  | .Tuple _ _ _, _ => true
  | _, _ => false
def isLoc (sc : Scope) (x : Str) : Bool := sc.names.lookup x == some .local
def isLc : C → Bool
  | .lc _ _ _ _ _ _ => true
  | .lc2 _ _ _ _ _ _ _ _ _ _ => true
  | _ => false
/-- a = [..] where a is seen by another block, or on another line -/
def swNo (sc : Scope) : Expr → Expr → Bool
  | .Name y py, .ListComp _ _ scope pos => !(isLoc sc y && (py.line == pos.line) && !(scope.names.any fun (n, k) => n == y && (k == .local || k == .cell)))
  | .Name y py, .DictComp _ _ _ scope pos => !(isLoc sc y && (py.line == pos.line) && !(scope.names.any fun (n, k) => n == y && (k == .local || k == .cell)))
  | _, _ => false
theorem swNo_ok {env : Env} {t e : Expr} {l : Nat} (h : swNo env.scope t e = true) : swapsWith e (some t) l env = pure false := by
  unfold swNo at h
  split at h
  · rename_i y py elt gs scope pos
    have ky : env.kindOf y = env.scope.names.lookup y := rfl
    unfold isLoc at h
    unfold swapsWith
    simp only [Expr.pos, ky]
    have e : (env.blockKind == .function && env.scope.names.lookup y == some .local && py.line == pos.line && !(scope.names.any fun (n, k) => n == y && (k == .local || k == .cell))) = false := by
      simp only [Bool.not_eq_true'] at h
      rw [Bool.and_assoc, Bool.and_assoc, ← Bool.and_assoc (env.scope.names.lookup y == some .local), h, Bool.and_false]
    rw [e]
  · rename_i y py ek ev gs scope pos
    have ky : env.kindOf y = env.scope.names.lookup y := rfl
    unfold isLoc at h
    unfold swapsWith
    simp only [Expr.pos, ky]
    have e : (env.blockKind == .function && env.scope.names.lookup y == some .local && py.line == pos.line && !(scope.names.any fun (n, k) => n == y && (k == .local || k == .cell))) = false := by
      simp only [Bool.not_eq_true'] at h
      rw [Bool.and_assoc, Bool.and_assoc, ← Bool.and_assoc (env.scope.names.lookup y == some .local), h, Bool.and_false]
    rw [e]
  · cases h
theorem swNo_name {sc : Scope} {t e : Expr} (h : swNo sc t e = true) : ∃ y py, t = .Name y py := by
  unfold swNo at h
  split at h
  · exact ⟨_, _, rfl⟩
  · exact ⟨_, _, rfl⟩
  · cases h
/-- a = [..] in one line -/
def swOk (sc : Scope) : Expr → Expr → Bool
  | .Name y py, .ListComp _ _ scope pos => isLoc sc y && (py.line == pos.line) && !(scope.names.any fun (n, k) => n == y && (k == .local || k == .cell))
  | _, _ => false
def parOk (N : List Str) (sc : Scope) : List Nat → Expr → List Expr → Bool
  | [i, j], .Tuple (.Name x px :: .Name y py :: []) _ _, a :: b :: [] => decide (N[i]? = some x) && decide (N[j]? = some y) && !Nat.beq i j && isLoc sc x && isLoc sc y && (py.line == px.line) && !(x == y) && !isStarE a && !isStarE b && !([a, b].all (foldedForSure 8)) && !([a, b].all (constantsAlone 8))
  | [i, j, l], .Tuple (.Name x px :: .Name y py :: .Name z pz :: []) _ _, a :: b :: c :: [] => decide (N[i]? = some x) && decide (N[j]? = some y) && decide (N[l]? = some z) && !Nat.beq i j && !Nat.beq i l && !Nat.beq j l && isLoc sc x && isLoc sc y && isLoc sc z && (py.line == px.line) && (pz.line == px.line) && !(x == y) && !(x == z) && !(y == z)
      && !isStarE a && !isStarE b && !isStarE c && !([a, b, c].all (foldedForSure 8)) && !([a, b, c].all (constantsAlone 8))
  | _, _, _ => false
mutual
def okS (T : Tab) (N : List Str) : S → Scope → Stmt → Bool
  | .expr c, sc, s => (match s with
    | .Expr e _ => !isCompE e && okE T N c sc e
    | _ => false)
  | .asg tg c, sc, s => (match s with
    | .Assign (t :: []) e _ => tgOk N fbT sc tg t && okE T N c sc e && ((!isCompE e && noSwap t e) || (isLc c && swOk sc t e) || swNo sc t e)
    | _ => false)
  | .par ts cs, sc, s => (match s with
    | .Assign (t :: []) (.Tuple es _ _) _ => oks T N cs sc es && noStar cs && parOk N sc ts t es
    | _ => false)
  | .sset o i c, sc, s => (match s with
    | .Assign (.Subscript a b _ :: []) e _ => okE T N o sc a && okE T N i sc b && okE T N c sc e && !isSlE b && !isCompE e
    | _ => false)
  | .fset o f c, sc, s => (match s with
    | .Assign (.Attribute a x _ :: []) e _ => decide (f = x) && okE T N o sc a && okE T N c sc e && !isCompE e
    | _ => false)
  | .raise c, sc, s => (match s with
    | .Raise (some (.Call (.Name x _) (.Constant (.str _) _ _ :: []) [] _)) none _ => glB sc x && decide (T.cs[c]? = some (some x))
    | _ => false)
  | .tryC b c e, sc, s => (match s with
    | .Try xs (.ExceptHandler (some (.Name x _)) none (.Return (some r) _ :: []) _ :: []) [] [] _ => okSs T N b sc xs && glB sc x && decide (T.cs[c]? = some (some x)) && okE T N e sc r && (constC e).isSome
    | _ => false)
  | .aug op i c, sc, s => (match s with
    | .AugAssign (.Name x _) o e _ => decide (o = op) && (decide (op = .Add) || decide (op = .Sub)) && decide (N[i]? = some x) && locB fbT sc x && okE T N c sc e
    | _ => false)
  | .ret c, sc, s => (match s with
    | .Return (some e) _ => okE T N c sc e
    | _ => false)
  | .retN, _, s => (match s with
    | .Return none _ => true
    | _ => false)
  | .ife c a b, sc, s => (match s with
    | .If e xs ys _ => okE T N c sc e && okSs T N a sc xs && okSs T N b sc ys
    | _ => false)
  | .whl c b, sc, s => (match s with
    | .While e xs [] _ => okE T N c sc e && okSs T N b sc xs
    | _ => false)
  | .for tg it b, sc, s => (match s with
    | .For t e xs [] _ => tgOk N fbT sc tg t && okI T N it sc t e && okSs T N b sc xs && !isSetE e
    | _ => false)
  | .never, _, _ => true
  | .pass, _, s => (match s with
    | .Pass _ => true
    | _ => false)
  | .brk, _, s => (match s with
    | .Break _ => true
    | _ => false)
  | .cont, _, s => (match s with
    | .Continue _ => true
    | _ => false)
def okSs (T : Tab) (N : List Str) : Ss → Scope → List Stmt → Bool
  | .nil, _, s => (match s with
    | [] => true
    | _ => false)
  | .cons c r, sc, s => (match s with
    | x :: xs => okS T N c sc x && okSs T N r sc xs
    | _ => false)
end

section
variable {T : Tab} {E : Ev} {k : Nat} {X : Cx} {W : WX} {pos p : Pos}
theorem swF {e : Expr} {t : Option Expr} {l : Nat} {env : Env} (h : isCompE e = false) : swapsWith e t l env = pure false := by
  cases e <;> first | rfl | cases h
theorem ss_expr {c : C} {e : Expr} (he : PE X e (tE (sy X) W E c)) (hs : isCompE e = false) : PS X (.Expr e pos) (tS (sy X) W E (.expr c)) :=
  PS.imp (ps_expr he (swF hs)) fun D σ H ⟨r, L, h, rl, rh, q⟩ => ⟨r, L, h, rl, rh, (thenP (rel := RD (sy X)) q (Ext.refl _ _) rl).imp fun x H1 ⟨r1, d1, h1, _, e1, R1, hx, q1⟩ => q1 r1 H1 σ e1 R1 (rl.mono e1)⟩
theorem ss_ret {c : C} {e : Expr} (he : PE X e (tE (sy X) W E c)) : PS X (.Return (some e) pos) (tS (sy X) W E (.ret c)) :=
  PS.imp (ps_ret he) fun D σ H ⟨r, L, h, rl, rh, q⟩ => ⟨r, L, h, rl, rh, (thenP (rel := RD (sy X)) q (Ext.refl _ _) rl).imp fun x H1 ⟨r1, d1, h1, _, e1, R1, hx, q1⟩ => q1 r1 H1 x e1 R1 hx⟩
theorem ss_retN : PS X (.Return none pos) (tS (sy X) W E .retN) := PS.imp ps_retN fun D σ H ⟨r, L, h, rl, rh, q⟩ => q r H .non (Ext.refl _ _) rh RD.non'
theorem asg_rd {tg : Tg} {c : C} {D : Ends} {σ : L2.St} {H : Hp} (q : tS (sy X) W E (.asg tg c) D σ H) : tE (sy X) W E c σ H (fun x H1 => gTg X.K tg x σ H1 D.nx) := by
  obtain ⟨r, L, h, rl, rh, q⟩ := q
  refine ⟨r, L, h, rl, rh, (thenP (rel := RD (sy X)) q (Ext.refl _ _) rl).imp fun x H1 ⟨r1, d1, h1, _, e1, R1, hx, q1⟩ => ?_⟩
  cases hset : setTg tg d1 L with
  | none => rw [hset] at q1; exact q1.elim
  | some L2 =>
    rw [hset] at q1
    exact setTg_ok hset (rl.mono e1) hx fun σ2 rl2 _ => q1 r1 H1 σ2 e1 R1 rl2
theorem tgOk_asg {N : List Str} {fb : Str → Bool} {sc : Scope} {tg : Tg} {t : Expr} {env : Env} (h : tgOk N fb sc tg t = true) : (assignEach [t] env).map (·.2) = [assign t env] := by
  cases t <;> first | rfl | (cases tg <;> simp only [tgOk] at h <;> cases h)
theorem noSwap_none {t e : Expr} {env : Env} (h : noSwap t e = true) : swappedStores [t] e env = pure none := by
  cases t <;> first | (cases e <;> cases h; done) | skip
  case Name x px => cases e <;> rfl
  case Tuple ts kk p =>
    cases e <;> first | rfl | skip
    case Tuple vs k2 p2 =>
      simp only [noSwap, decide_eq_true_eq] at h
      unfold swappedStores
      have h2 : (ts.length == 2) = false := by rw [← Bool.not_eq_true, beq_iff_eq]; omega
      have h3 : (ts.length == 3) = false := by rw [← Bool.not_eq_true, beq_iff_eq]; omega
      simp only [h2, h3]
      rfl
theorem ss_asg {tg : Tg} {c : C} {t e : Expr} (o : OkS T E k X W) (ht : tgOk X.N fbT X.env.scope tg t = true) (he : PE X e (tE (sy X) W E c)) (hc : isCompE e = false) (hn : noSwap t e = true) : PS X (.Assign [t] e pos) (tS (sy X) W E (.asg tg c)) :=
  PS.imp (ps_asg he (pg_of o.calm o.nd (fun x _ => o.fn x) ht) (swF hc) (noSwap_none hn) (tgOk_asg ht)) fun D σ H q => asg_rd q
theorem ss_asgN {tg : Tg} {c : C} {t e : Expr} (o : OkS T E k X W) (ht : tgOk X.N fbT X.env.scope tg t = true) (he : PE X e (tE (sy X) W E c)) (hn : swNo X.env.scope t e = true) : PS X (.Assign [t] e pos) (tS (sy X) W E (.asg tg c)) := by
  obtain ⟨y, py, rfl⟩ := swNo_name hn
  exact PS.imp (ps_asg he (pg_of o.calm o.nd (fun x _ => o.fn x) ht) (swNo_ok (l := pos.line) hn) (noSwap_none rfl) (tgOk_asg ht)) fun D σ H q => asg_rd q
theorem ss_never {s : Stmt} : PS X s (tS (sy X) W E .never) := PS.imp ps_never fun D σ H ⟨r, L, h, rl, rh, q⟩ => q
theorem ss_pass : PS X (.Pass pos) (tS (sy X) W E .pass) := PS.imp ps_pass fun D σ H ⟨r, L, h, rl, rh, q⟩ => q r H σ (Ext.refl _ _) rh rl
theorem ss_brk : PS X (.Break pos) (tS (sy X) W E .brk) := PS.imp ps_break fun D σ H ⟨r, L, h, rl, rh, q⟩ => q r H σ (Ext.refl _ _) rh rl
theorem ss_cont : PS X (.Continue pos) (tS (sy X) W E .cont) := PS.imp ps_continue fun D σ H ⟨r, L, h, rl, rh, q⟩ => q r H σ (Ext.refl _ _) rh rl
theorem ss_if {c : C} {a b : Ss} {e : Expr} {xs ys : List Stmt} (hc : PT X e (tT (sy X) W E c)) (ha : PSs X xs (tSs (sy X) W E a)) (hb : PSs X ys (tSs (sy X) W E b)) : PS X (.If e xs ys pos) (tS (sy X) W E (.ife c a b)) :=
  PS.imp (ps_if hc ha hb) fun D σ H ⟨r, L, h, rl, rh, q⟩ => ⟨r, L, h, rl, rh, (asB_thenP q rl).imp fun b H1 ⟨r1, h1, e1, R1, q1⟩ => by
    cases b with
    | true => rw [if_pos rfl]; exact ⟨r1, L, h1, rl.mono e1, R1, PostS.shift q1 e1⟩
    | false => rw [if_neg (by decide)]; exact ⟨r1, L, h1, rl.mono e1, R1, PostS.shift q1 e1⟩⟩
theorem sss_nil : PSs X [] (tSs (sy X) W E .nil) := PSs.imp pss_nil fun D σ H ⟨r, L, h, rl, rh, q⟩ => q r H σ (Ext.refl _ _) rh rl
theorem sss_cons {s : S} {ss : Ss} {st : Stmt} {sts : List Stmt} (h1 : PS X st (tS (sy X) W E s)) (h2 : PSs X sts (tSs (sy X) W E ss)) : PSs X (st :: sts) (tSs (sy X) W E (.cons s ss)) :=
  PSs.imp (pss_cons h1 h2) fun D σ H ⟨r, L, h, rl, rh, q⟩ => ⟨r, L, h, rl, rh, by
    have q : PostS (sy X) W r H D (seqS (exS E s L h) fun L h => exSs E ss L h) := q
    cases e : exS E s L h with
    | next L2 h2 =>
      rw [e] at q
      exact fun r' H' σ' e' R' rl' => ⟨r', L2, h2, rl', R', PostS.shift q e'⟩
    | ret d h2 => rw [e] at q; exact q
    | brk L2 h2 => rw [e] at q; exact q
    | cont L2 h2 => rw [e] at q; exact q
    | exc c x L2 h2 => rw [e] at q; exact q
    | bad => rw [e] at q; exact q⟩
/-! ### a, b = x, y -/
theorem par_rd {ts : List Nat} {cs : Cs} {D : Ends} {σ : L2.St} {H : Hp} (hns : noStar cs = true) (hl : lenCs cs = ts.length) (q : tS (sy X) W E (.par ts cs) D σ H) : tA (sy X) W E cs σ H (fun vs H1 => vs.length = ts.length ∧ D.nx (setsV ts vs σ) H1) := by
  obtain ⟨r, L, h, rl, rh, q⟩ := q
  refine ⟨r, L, h, rl, rh, (thenP (rel := RDs (sy X)) q (Ext.refl _ _) rl).imp fun vs H1 ⟨r1, ds, h1, eq1, e1, R1, hx, q1⟩ => ?_⟩
  have hdl := exs_len hns eq1
  refine ⟨by rw [hx.length, hdl, hl], ?_⟩
  have hb : Nat.beq ds.length ts.length = true := by rw [hdl, hl]; exact Nat.beq_refl _
  simp only [setAll, hb, if_true] at q1
  exact q1 r1 H1 _ e1 R1 (setsV_rel hx (rl.mono e1))
theorem locOf {sc : Scope} {x : Str} (h : isLoc sc x = true) : sc.names.lookup x = some .local := eq_of_beq h
theorem neOf {i j : Nat} (h : Nat.beq i j = false) : i ≠ j := fun e => by rw [e, Nat.beq_refl] at h; cases h
/-! ### d[k] = v -/
def tPut (X : Cx) : TSet := fun o i v H Q => ∃ a lvs l, o = .ref a ∧ H a = some (DicL X.prog X.w a lvs) ∧ leafV i = some l ∧ lvs.length < sizeLine ∧ Q (upd H a (DicL X.prog X.w a (putK lvs l v)))
theorem pset_put : PSet X (tPut X) := by
  intro pins s σ H o i v ov iv u Q I ro ri rv h
  obtain ⟨a, lvs, l, rfl, h1, hl, hz, q⟩ := h
  cases (show ov = Value.ref a from ro)
  exact dl_setItem I h1 ri hl rv hz fun s' I' => ⟨_, I', q⟩
theorem setSub_inv {a b v : D} {h : Hs} : setSub a b v h = .bad ∨ ∃ n kvs, a = .loc n ∧ h[n]? = some (.dic kvs) ∧ flat b = true ∧ Nat.blt kvs.length lim = true ∧ setSub a b v h = .ok () (h.set n (.dic (kvPut b v kvs))) := by
  cases a with
  | loc n =>
    cases q : h[n]? with
    | none => left; simp [setSub, q]
    | some o =>
      cases o with
      | dic kvs =>
        cases hb : (flat b && flatK kvs && Nat.blt kvs.length lim) with
        | true =>
          right
          simp only [Bool.and_eq_true] at hb
          exact ⟨n, kvs, rfl, q, hb.1.1, hb.2, by simp only [setSub, q]; rw [hb.1.1, hb.1.2, hb.2]; rfl⟩
        | false => left; simp only [setSub, q]; rw [hb]; rfl
      | _ => left; simp [setSub, q]
  | _ => left; rfl
theorem ss_sset {oc ic c : C} {a b e : Expr} {tpos : Pos} (ho : PE X a (tE (sy X) W E oc)) (hi : PE X b (tE (sy X) W E ic)) (he : PE X e (tE (sy X) W E c)) (hsl : isSlE b = false) (hc : isCompE e = false) : PS X (.Assign [.Subscript a b tpos] e pos) (tS (sy X) W E (.sset oc ic c)) := by
  have ha : ∀ v, assign (.Subscript a b tpos) X.env v = (do
      let ov ← holding [v] (eval a X.env)
      let iv ← holding [v, ov] (eval b X.env)
      standAt tpos
      holding [v, ov, iv] (setItem ov iv v)
      release [v, ov, iv] []) := fun v => by cases b <;> first | rfl | cases hsl
  refine PS.imp (ps_asg he (pg_sub ho hi pset_put ha) (by unfold swapsWithSole; exact swF hc) (by cases e <;> rfl) rfl) fun D σ H ⟨r, L, h, rl, rh, q⟩ => ?_
  refine ⟨r, L, h, rl, rh, (thenP (rel := RD (sy X)) q (Ext.refl _ _) rl).imp fun x H1 ⟨r1, d1, h1, _, e1, R1, hx, q1⟩ => ?_⟩
  refine ⟨r1, L, h1, rl.mono e1, R1, (thenP (rel := RD (sy X)) q1 e1 rl).imp fun y H2 ⟨r2, d2, h2, _, e2, R2, hy, q2⟩ => ?_⟩
  refine ⟨r2, L, h2, rl.mono (e1.trans e2), R2, (thenP (rel := RD (sy X)) q2 (e1.trans e2) rl).imp fun z H3 ⟨r3, d3, h3, _, e3, R3, hz, q3⟩ => ?_⟩
  rcases setSub_inv (a := d2) (b := d3) (v := d1) (h := h3) with e | ⟨n, kvs, rfl, hq, hf, hlim, e⟩
  · rw [e] at q3; exact q3.elim
  · rw [e] at q3
    obtain ⟨p, rfl, hp⟩ := (hy.mono e3).loc_inv
    obtain ⟨lvs, g1, g2, g3⟩ := R3.dic hq hp
    obtain ⟨l, hl⟩ := flat_leaf hf
    have hx3 := hx.mono (e2.trans e3)
    have hlen : lvs.length = kvs.length := by
      have := congrArg List.length g2
      simpa [leafK] using this.symm
    refine ⟨p, lvs, l, rfl, g1, leaf_V hz hl, by rw [hlen]; exact blt_lim hlim, ?_⟩
    obtain ⟨g4, g5⟩ := kv_put hl hx3 g2 g3
    have ex := Ext.write (r := r3) (H := H3) (u := DicL X.prog X.w p (putK lvs l x)) (List.mem_of_getElem? hp)
    have e123 := e1.trans (e2.trans (e3.trans ex))
    exact q3 r3 _ σ e123 (R3.write hp ⟨_, upd_same, g4, g5.mono ex⟩) (rl.mono e123)
/-! ### name op= e -/
def tIpI (f : Int → Int → Int) : TIp := fun x y H Q => ∃ i j, x = .int i ∧ y = .int j ∧ Q (.int (f i j)) H
theorem aug_rd {op : Operator} {i : Nat} {c : C} {f : Int → Int → Int} {D : Ends} {σ : L2.St} {H : Hp} (hf : ∀ a b h, opAug op a b h = .bad ∨ ∃ x y, a = .int x ∧ b = .int y ∧ opAug op a b h = .ok (.int (f x y)) h) (q : tS (sy X) W E (.aug op i c) D σ H) : tAug i (tE (sy X) W E c) (ipI f) D σ H := by
  obtain ⟨r, L, h, rl, rh, q⟩ := q
  simp only [exS] at q
  split at q
  · rename_i d hd
    obtain ⟨v, hv, rv⟩ := rl.get i d hd
    refine ⟨v, hv, r, L, h, rl, rh, (thenP (rel := RD (sy X)) q (Ext.refl _ _) rl).imp fun y H1 ⟨r1, d1, h1, _, e1, R1, hx, q1⟩ => ?_⟩
    rcases hf d d1 h1 with e | ⟨x, y2, rfl, rfl, e⟩
    · rw [e] at q1; exact q1.elim
    · rw [e] at q1
      exact ⟨x, y2, rv.int_inv, hx.int_inv, q1 r1 H1 _ e1 R1 ((rl.mono e1).set i RD.int')⟩
  · exact q.elim
theorem ss_aug {op : Operator} {i : Nat} {c : C} {x : Str} {e : Expr} {tpos : Pos} (o : OkS T E k X W) (hop : op = .Add ∨ op = .Sub) (hi : X.N[i]? = some x) (hl : locB fbT X.env.scope x = true) (he : PE X e (tE (sy X) W E c)) : PS X (.AugAssign (.Name x tpos) op e pos) (tS (sy X) W E (.aug op i c)) := by
  obtain ⟨hx, _⟩ := locB_ok hl
  rcases hop with rfl | rfl
  · refine PS.imp (ps_aug o.nd hi hx he ip_add (.inl (o.fn x))) fun D σ H q => aug_rd (fun a b h => ?_) q
    cases a <;> cases b <;> first | exact .inl rfl | exact .inr ⟨_, _, rfl, rfl, rfl⟩
  · refine PS.imp (ps_aug o.nd hi hx he ip_sub (.inl (o.fn x))) fun D σ H q => aug_rd (fun a b h => ?_) q
    cases a <;> cases b <;> first | exact .inl rfl | exact .inr ⟨_, _, rfl, rfl, rfl⟩
/-! ### loops -/
theorem ss_while {c : C} {b : Ss} {e : Expr} {xs : List Stmt} (o : OkS T E k X W) (hc : PT X e (tT (sy X) W E c)) (hb : PSs X xs (tSs (sy X) W E b)) : PS X (.While e xs [] pos) (tS (sy X) W E (.whl c b)) := by
  refine PS.imp (ps_while o.hp hc hb) fun D σ H ⟨r, L, h, rl, rh, q⟩ => ?_
  have q : PostS (sy X) W r H D (whileLoop (fun L h => asB (ex E c true L h)) (fun L h => exSs E b L h) E.wf L h) := q
  refine ⟨fun m σ' Hc => ∃ r' h' L', RelH (sy X) r' Hc h' ∧ RelL (sy X) r' Hc σ' L' ∧ PostS (sy X) W r' Hc D (whileLoop (fun L h => asB (ex E c true L h)) (fun L h => exSs E b L h) m L' h'), ⟨E.wf, r, h, L, rh, rl, q⟩, ?_⟩
  rintro m σ1 H1 ⟨r1, h1, L1, R1, rl1, q1⟩
  cases m with
  | zero => exact q1.elim
  | succ m =>
    refine ⟨r1, L1, h1, rl1, R1, (asB_thenP q1 rl1).imp fun bb H2 ⟨r2, h2, e2, R2, q2⟩ => ?_⟩
    cases bb with
    | false =>
      rw [if_neg (by decide)]
      exact q2 r2 H2 σ1 e2 R2 (rl1.mono e2)
    | true =>
      rw [if_pos rfl]
      rw [if_pos rfl] at q2
      refine ⟨fun σ' Hc => ∃ r' h' L', RelH (sy X) r' Hc h' ∧ RelL (sy X) r' Hc σ' L' ∧ PostS (sy X) W r' Hc D (whileLoop (fun L h => asB (ex E c true L h)) (fun L h => exSs E b L h) m L' h'), fun σ' H' z => ⟨m, Nat.lt_succ_self m, z⟩, r2, L1, h2, rl1.mono e2, R2, ?_⟩
      dsimp only at q2
      cases eb : exSs E b L1 h2 with
      | next L2 h3 => rw [eb] at q2; exact fun r' H' σ' e' R' rl' => ⟨r', h3, L2, R', rl', PostS.shift q2 (e2.trans e')⟩
      | cont L2 h3 => rw [eb] at q2; exact fun r' H' σ' e' R' rl' => ⟨r', h3, L2, R', rl', PostS.shift q2 (e2.trans e')⟩
      | brk L2 h3 => rw [eb] at q2; exact fun r' H' σ' e' R' rl' => q2 r' H' σ' (e2.trans e') R' rl'
      | ret d h3 => rw [eb] at q2; exact fun r' H' v e' R' rl' => q2 r' H' v (e2.trans e') R' rl'
      | exc c x L2 h3 => rw [eb] at q2; exact fun r' H' σ' cls d e' => q2 r' H' σ' cls d (e2.trans e')
      | bad => rw [eb] at q2; exact q2
theorem ss_for {tg : Tg} {it : It} {b : Ss} {t e : Expr} {xs : List Stmt} (o : OkS T E k X W) (ht : tgOk X.N fbT X.env.scope tg t = true) (hi : PI X t e (tI (sy X) W E it)) (hb : PSs X xs (tSs (sy X) W E b)) (hs : isSetE e = false) : PS X (.For t e xs [] pos) (tS (sy X) W E (.for tg it b)) := by
  refine PS.imp (ps_for o.hp o.calm hi (pg_of o.calm o.nd (fun x _ => o.fn x) ht) hb (foldSet hs)) fun D σ H ⟨r, L, h, rl, rh, q⟩ => ?_
  refine ⟨r, L, h, rl, rh, (thenP (rel := RI (sy X)) q (Ext.refl _ _) rl).imp fun J H1 ⟨r1, s, h1, _, e1, R1, ri, q1⟩ => ?_⟩
  refine ⟨fun i m σ' Hc => ∃ r' h' L', Ext r1 H1 r' Hc ∧ RelH (sy X) r' Hc h' ∧ RelL (sy X) r' Hc σ' L' ∧ m = s.xs.length - i ∧ i ≤ s.xs.length ∧ PostS (sy X) W r' Hc D (forLoop s (fun d L h => (match setTg tg d L with
    | some L2 => exSs E b L2 h
    | none => .bad)) (s.xs.drop i) L' h'), ⟨s.xs.length, r1, h1, L, Ext.refl _ _, R1, rl.mono e1, rfl, Nat.zero_le _, PostS.shift q1 e1⟩, ?_⟩
  rintro i m σ1 Hc ⟨r2, h2, L2, e2, R2, rl2, rfl, hi', q2⟩
  cases hd : s.xs.drop i with
  | nil =>
    rw [hd] at q2
    have hlen : s.xs.length ≤ i := List.drop_eq_nil_iff.mp hd
    simp only [forLoop] at q2
    split at q2
    · rename_i hc
      exact .inl ⟨(ri i r2 Hc h2 e2.goes R2 hc).2 (Nat.le_antisymm hlen hi'), q2 r2 Hc σ1 (Ext.refl _ _) R2 rl2⟩
    · exact q2.elim
  | cons d rest =>
    rw [hd] at q2
    have hlt : i < s.xs.length := by
      have := congrArg List.length hd
      rw [List.length_drop, List.length_cons] at this
      omega
    have hdi : s.xs[i]? = some d := by
      have := congrArg (fun l => l[0]?) hd
      simpa using this
    have hrest : s.xs.drop (i + 1) = rest := by
      have := congrArg List.tail hd
      simpa using this
    simp only [forLoop] at q2
    split at q2
    · rename_i hc
      obtain ⟨go, yl⟩ := (ri i r2 Hc h2 e2.goes R2 hc).1 d hdi
      refine .inr ⟨go, fun σ' Hc => ∃ r' h' L', Ext r1 H1 r' Hc ∧ RelH (sy X) r' Hc h' ∧ RelL (sy X) r' Hc σ' L' ∧ s.xs.length - (i + 1) = s.xs.length - (i + 1) ∧ i + 1 ≤ s.xs.length ∧ PostS (sy X) W r' Hc D (forLoop s (fun d L h => (match setTg tg d L with
        | some L2 => exSs E b L2 h
        | none => .bad)) (s.xs.drop (i + 1)) L' h'), fun σ' H' z => ⟨s.xs.length - (i + 1), by omega, z⟩, fun x H3 hy => ?_⟩
      obtain ⟨e3, R3, hx⟩ := yl x H3 hy
      cases hset : setTg tg d L2 with
      | none => rw [hset] at q2; exact q2.elim
      | some L3 =>
        rw [hset] at q2
        refine setTg_ok hset (rl2.mono e3) hx fun σ3 rl3 _ => ⟨r2, L3, h2, rl3, R3, ?_⟩
        dsimp only at q2
        rw [hrest]
        cases eb : exSs E b L3 h2 with
        | next L4 h4 => rw [eb] at q2; exact fun r' H' σ' e' R' rl' => ⟨r', h4, L4, e2.trans (e3.trans e'), R', rl', rfl, hlt, PostS.shift q2 (e3.trans e')⟩
        | cont L4 h4 => rw [eb] at q2; exact fun r' H' σ' e' R' rl' => ⟨r', h4, L4, e2.trans (e3.trans e'), R', rl', rfl, hlt, PostS.shift q2 (e3.trans e')⟩
        | brk L4 h4 => rw [eb] at q2; exact fun r' H' σ' e' R' rl' => q2 r' H' σ' (e3.trans e') R' rl'
        | ret d h4 => rw [eb] at q2; exact fun r' H' v e' R' rl' => q2 r' H' v (e3.trans e') R' rl'
        | exc c x L4 h4 => rw [eb] at q2; exact fun r' H' σ' cls d e' => q2 r' H' σ' cls d (e3.trans e')
        | bad => rw [eb] at q2; exact q2
    · exact q2.elim
end
end EV

set_option Elab.async false
set_option linter.all false
set_option maxRecDepth 100000
set_option maxHeartbeats 4000000
/-! EV E: a.f = v, raise, try. -/
namespace EV
open PySem PySem.Spec PyProof.Rows L2

section
variable {Y : Sy} {r : Rg} {H : Hp}
theorem put_rel {f : Str} {d : D} {v : V} (hd : RD Y r H d v) : ∀ {fs : List (Str × D)} {vs : List (Str × V)}, vs.map (·.1) = fs.map (·.1) → RDs Y r H (fs.map (·.2)) (vs.map (·.2)) → (putF f v vs).map (·.1) = (putD f d fs).map (·.1) ∧ RDs Y r H ((putD f d fs).map (·.2)) ((putF f v vs).map (·.2))
  | [], [], _, _ => ⟨rfl, RDs.cons hd RDs.nil⟩
  | [], _ :: _, k, _ => by simp at k
  | _ :: _, [], k, _ => by simp at k
  | (g, x) :: fs, (g', y) :: vs, k, hr => by
    simp only [List.map_cons, List.cons.injEq] at k
    obtain ⟨rfl, k⟩ := k
    obtain ⟨v', t, e1, h1, h2⟩ := RDs.cons_inv (by simpa only [List.map_cons] using hr)
    simp only [List.map_cons, List.cons.injEq] at e1
    obtain ⟨rfl, rfl⟩ := e1
    unfold putF putD
    by_cases e : g' = f
    · rw [if_pos e, if_pos e]
      exact ⟨by simp [k], RDs.cons hd h2⟩
    · rw [if_neg e, if_neg e]
      obtain ⟨z1, z2⟩ := put_rel hd k h2
      exact ⟨by simp [z1], RDs.cons h1 z2⟩
end
section
variable {T : Tab} {E : Ev} {k : Nat} {X : Cx} {W : WX} {pos p p1 p2 : Pos}
theorem setA_inv {a v : D} {f : Str} {h : Hs} : setA E a f v h = .bad ∨ ∃ n c fs cl, a = .loc n ∧ h[n]? = some (.ins c fs) ∧ insOf E c = some cl ∧ cl.flds.contains f = true ∧ fs.length < 1000 ∧ setA E a f v h = .ok () (h.set n (.ins c (putD f v fs))) := by
  cases a with
  | loc n =>
    cases q : h[n]? with
    | none => left; simp [setA, q]
    | some o =>
      cases o with
      | ins c fs =>
        cases ec : insOf E c with
        | none => left; simp [setA, q, ec]
        | some cl =>
          cases hb : (cl.flds.contains f && Nat.blt fs.length 1000) with
          | true =>
            right
            have hb' := hb
            simp only [Bool.and_eq_true] at hb'
            exact ⟨n, c, fs, cl, rfl, q, ec, hb'.1, Nat.le_of_ble_eq_true hb'.2, by simp only [setA, q, ec]; rw [hb]; rfl⟩
          | false => left; simp only [setA, q, ec]; rw [hb]; rfl
      | _ => left; simp [setA, q]
  | _ => left; rfl
theorem ss_fset {oc c : C} {a e : Expr} {f : Str} {tpos : Pos} (o : OkS T E k X W) (ho : PE X a (tE (sy X) W E oc)) (he : PE X e (tE (sy X) W E c)) (hc : isCompE e = false) : PS X (.Assign [.Attribute a f tpos] e pos) (tS (sy X) W E (.fset oc f c)) := by
  refine PS.imp (ps_fld ho he (swF hc)) fun D σ H ⟨r, L, h, rl, rh, q⟩ => ?_
  refine ⟨r, L, h, rl, rh, (thenP (rel := RD (sy X)) q (Ext.refl _ _) rl).imp fun x H1 ⟨r1, d1, h1, _, e1, R1, hx, q1⟩ => ?_⟩
  refine ⟨r1, L, h1, rl.mono e1, R1, (thenP (rel := RD (sy X)) q1 e1 rl).imp fun y H2 ⟨r2, d2, h2, _, e2, R2, hy, q2⟩ => ?_⟩
  rcases setA_inv (E := E) (a := d2) (v := d1) (f := f) (h := h2) with e | ⟨n, c', fs, cl, rfl, hq, ec, hf, hl, e⟩
  · rw [e] at q2; exact q2.elim
  · rw [e] at q2
    obtain ⟨m1, m2, rfl⟩ := insOf_mem ec
    obtain ⟨b, rfl, hp⟩ := hy.loc_inv
    obtain ⟨C, dx, vs, g1, g2, g3, g4⟩ := R2.obj n _ b hq hp
    have co := o.cls cl m1 m2 C g2
    have hlen : vs.length = fs.length := by
      have := congrArg List.length g3
      simpa using this
    refine ⟨b, C, dx, vs, rfl, g1, co.ck.cls, co.ck.fld f (by simpa using hf), by omega, ?_⟩
    have hx2 := hx.mono e2
    obtain ⟨z1, z2⟩ := put_rel (f := f) hx2 g3 g4
    have ex := Ext.write (r := r2) (H := H2) (u := .ins C dx (putF f x vs)) (List.mem_of_getElem? hp)
    have e12 := e1.trans (e2.trans ex)
    exact q2 r2 _ σ e12 (R2.write hp ⟨C, dx, _, upd_same, g2, z1, z2.mono ex⟩) (rl.mono e12)
theorem ss_raise {c : Nat} {x m : Str} {kk : Nat} (o : OkS T E k X W) (hg : glB X.env.scope x = true) (hc : T.cs[c]? = some (some x)) : PS X (.Raise (some (.Call (.Name x p) [.Constant (.str m) kk p1] [] p2)) none pos) (tS (sy X) W E (.raise c)) := by
  obtain ⟨g1, g2⟩ := glB_ok hg
  obtain ⟨cl, C, ecl, rfl, hC, _⟩ := o.cnm c x hc
  cases hx : (cl.exc && cl.init.isNone) with
  | false =>
    refine ⟨fun pins s σ H D I ⟨r, L, h, rl, rh, q⟩ => ?_⟩
    simp only [exS, ecl, hx] at q
    exact (show False from q).elim
  | true =>
    have hx' := hx
    simp only [Bool.and_eq_true] at hx'
    have k1 := o.xcs cl (List.mem_of_getElem? ecl) hx'.1 C hC
    refine PS.imp (ps_raise o.calm o.tk (pmk_own PySem.F.excBase_ValueError (k1.exc (by simpa using hx'.2)) hC k1.kp (raises_own k1.sub k1.typ) g1 g2)) fun D σ H ⟨r, L, h, rl, rh, q⟩ => ?_
    simp only [exS, ecl, hx] at q
    exact q r H σ (.ref C) none (Ext.refl _ _) rh rl ⟨hC, rfl⟩
theorem const_pe {e : C} {d : D} {y : Expr} {X' : Cx} (hd : constC e = some d) (h : okE T X'.N e X'.env.scope y = true) : ∃ v : V, PE X' y (tC v) ∧ ∀ (r : Rg) (H : Hp), RD (sy X) r H d v := by
  cases e <;> simp only [constC] at hd <;> first | cases hd; done | skip
  all_goals simp only [okE] at h; split at h <;> first | cases h; done | skip
  all_goals simp only [Option.some.injEq] at hd; subst hd
  · cases of_decide_eq_true h
    exact ⟨_, pe_int, fun _ _ => RD.int'⟩
  · cases eq_of_beq h
    exact ⟨_, pe_bl, fun _ _ => RD.bl'⟩
  · exact ⟨_, pe_non, fun _ _ => RD.non'⟩
  · cases of_decide_eq_true h
    exact ⟨_, pe_str, fun _ _ => RD.str'⟩
theorem ss_try {b : Ss} {c : Nat} {e : C} {x : Str} {y : Expr} {xs : List Stmt} {hpos : Pos} (o : OkS T E k X W) (hg : glB X.env.scope x = true) (hc : T.cs[c]? = some (some x)) (he : okE T X.N e X.env.scope y = true) (hcs : (constC e).isSome = true)
    (hb : ∀ (W' : WX) (pn : List (Addr × Obj)) (xe : Value → Shared → Prop), Takes (X.tr pn xe) W' → PassesOwn (model X.prog X.w) X.A X.env xe → PSs (X.tr pn xe) xs (tSs (sy X) W' E b)) :
    PS X (.Try xs [.ExceptHandler (some (.Name x p)) none [.Return (some y) p1] hpos] [] [] pos) (tS (sy X) W E (.tryC b c e)) := by
  obtain ⟨g1, g2⟩ := glB_ok hg
  obtain ⟨cl, C, ecl, rfl, hC, _⟩ := o.cnm c x hc
  obtain ⟨d, hd⟩ := Option.isSome_iff_exists.mp hcs
  obtain ⟨v, _, hv⟩ := const_pe (X := X) (X' := X) hd he
  refine PS.imp (ps_try_only (c := .ref C) (ts := fun _ _ _ => fun D σ H => D.rt v H) o.stk o.frm ⟨g1, g2, .inl hC⟩ o.tk hb ?_) fun D σ H ⟨r, L, h, rl, rh, q⟩ => ⟨r, L, h, rl, rh, ?_⟩
  · intro a oe cls d' pn _ _
    obtain ⟨v', h1, h2⟩ := const_pe (X := X) (X' := X.suite a ((a, oe) :: pn)) hd he
    have ev : v' = v := by
      have a1 := h2 ⟨[], []⟩ fun _ => none
      have a2 := hv ⟨[], []⟩ fun _ => none
      cases e <;> simp only [constC] at hd <;> first | cases hd; done | skip
      all_goals simp only [Option.some.injEq] at hd; subst hd
      · exact a1.int_inv.trans a2.int_inv.symm
      · exact a1.bl_inv.trans a2.bl_inv.symm
      · exact a1.non_inv.trans a2.non_inv.symm
      · exact a1.str_inv.trans a2.str_inv.symm
    subst ev
    exact pss_one (ps_ret h1)
  · have q : PostS (sy X) W r H D (catchS E c (constC e) (exSs E b L h)) := q
    cases eb : exSs E b L h with
    | exc c' x' L' h' =>
      rw [eb, hd] at q
      intro r' H' σ' cls da e' R' rl' hx
      have q : PostS (sy X) W r H D (match caught E c' c, some d with
        | some true, some d => .ret d h'
        | some false, _ => .exc c' x' L' h'
        | _, _ => .bad) := q
      cases ec : caught E c' c with
      | none => rw [ec] at q; exact q.elim
      | some bb =>
        have ec' := ec
        unfold caught at ec'
        rw [ecl] at ec'
        split at ec'
        · rename_i cl' dl z1 z2
          cases z1
          split at ec'
          · rename_i hx2
            rw [Bool.and_eq_true] at hx2
            have hm : dl ∈ E.cs := List.mem_of_find?_eq_some z2
            have hnm : dl.nm = c' := of_decide_eq_true (List.find?_some (p := fun q : Cl => decide (q.nm = c')) z2)
            subst hnm
            have hcls : X.mg dl.nm = some cls := hx.1
            refine ⟨bb, ?_, fun hbb a na => ?_, fun hbb => ?_⟩
            · obtain ⟨D', rfl⟩ := o.crf dl hm cls hcls
              rw [(o.xcs dl hm hx2.2 D' hcls).exm cl (List.mem_of_getElem? ecl) hx2.1 C hC]
              exact ec'
            · subst hbb
              rw [ec] at q
              exact q r' H' v e' R' (hv r' H')
            · subst hbb
              rw [ec] at q
              exact q r' H' σ' cls da e' R' rl' hx
          · cases ec'
        · cases ec'
    | next L' h' => rw [eb] at q; exact q
    | ret d' h' => rw [eb] at q; exact q
    | brk L' h' => rw [eb] at q; exact q
    | cont L' h' => rw [eb] at q; exact q
    | bad => rw [eb] at q; exact q.elim
end
end EV

set_option Elab.async false
set_option linter.all false
set_option maxRecDepth 100000
set_option maxHeartbeats 4000000
/-! EV 16: all statements, defs. -/
namespace EV
open PySem PySem.Spec PyProof.Rows L2
theorem sw2 {x y : Str} {px py : Pos} {kt k2 : Nat} {pt pt2 : Pos} {a b : Expr} {env : Env} (hk : env.scope.kind = .function) (hx : env.scope.names.lookup x = some .local) (hy : env.scope.names.lookup y = some .local) (hl : (py.line == px.line) = true) (hxy : (x == y) = false)
    (ha : isStarE a = false) (hb : isStarE b = false) (hf : ([a, b].all (foldedForSure 8)) = false) (hc : ([a, b].all (constantsAlone 8)) = false) : swappedStores [.Tuple [.Name x px, .Name y py] kt pt] (.Tuple [a, b] k2 pt2) env = pure (some [x, y]) := by
  have hbk : env.blockKind = .function := by unfold Env.blockKind; rw [hk]; rfl
  have kx : env.kindOf x = some .local := hx
  have ky : env.kindOf y = some .local := hy
  have ed : ([x, y] : List Str).eraseDups.length = 2 := by
    have : (y == x) = false := by rw [← Bool.not_eq_true, beq_iff_eq]; intro q; rw [q] at hxy; simp at hxy
    simp [List.eraseDups_cons, List.filter, this]
  have hpx : (px.line == px.line) = true := by simp
  unfold swappedStores
  simp only [hbk, kx, ky, hf, hc, ha, hb, List.any_cons, List.any_nil, Bool.or_false, List.filterMap_cons, List.filterMap_nil, List.head?_cons, Option.map_some, Option.getD_some, Expr.pos, hl, hpx, ed, List.length_cons, List.length_nil]
  simp only [show (some NameKind.local == some NameKind.local && true) = true from rfl, if_true, ed]
  refine (if_neg (by decide)).trans ((if_neg fun q => ?_).trans rfl)
  simp only [Bool.or_eq_true] at q
  rcases q with q | q
  · cases a <;> first | (cases ha; done) | (cases q; done)
  · cases b <;> first | (cases hb; done) | (cases q; done)
theorem sw3 {x y z : Str} {px py pz : Pos} {kt k2 : Nat} {pt pt2 : Pos} {a b c : Expr} {env : Env} (hk : env.scope.kind = .function) (hx : env.scope.names.lookup x = some .local) (hy : env.scope.names.lookup y = some .local) (hz : env.scope.names.lookup z = some .local) (hl : (py.line == px.line) = true) (hl2 : (pz.line == px.line) = true) (hxy : (x == y) = false) (hxz : (x == z) = false) (hyz : (y == z) = false)
    (ha : isStarE a = false) (hb : isStarE b = false) (hb2 : isStarE c = false) (hf : ([a, b, c].all (foldedForSure 8)) = false) (hc : ([a, b, c].all (constantsAlone 8)) = false) : swappedStores [.Tuple [.Name x px, .Name y py, .Name z pz] kt pt] (.Tuple [a, b, c] k2 pt2) env = pure (some [x, y, z]) := by
  have hbk : env.blockKind = .function := by unfold Env.blockKind; rw [hk]; rfl
  have kx : env.kindOf x = some .local := hx
  have ky : env.kindOf y = some .local := hy
  have kz : env.kindOf z = some .local := hz
  have nb : ∀ {x y : Str}, (x == y) = false → (y == x) = false := fun {x y} h => by rw [← Bool.not_eq_true, beq_iff_eq]; intro q; rw [q] at h; simp at h
  have ed : ([x, y, z] : List Str).eraseDups.length = 3 := by
    simp [List.eraseDups_cons, List.filter, nb hxy, nb hxz, nb hyz]
  have hpx : (px.line == px.line) = true := by simp
  unfold swappedStores
  simp only [hbk, kx, ky, kz, hf, hc, ha, hb, List.any_cons, List.any_nil, Bool.or_false, List.filterMap_cons, List.filterMap_nil, List.head?_cons, Option.map_some, Option.getD_some, Expr.pos, hl, hl2, hpx, ed, List.length_cons, List.length_nil]
  simp only [show (some NameKind.local == some NameKind.local && true) = true from rfl, if_true, ed]
  refine (if_neg (by decide)).trans ((if_neg fun q => ?_).trans rfl)
  simp only [Bool.or_eq_true] at q
  rcases q with q | q | q
  · cases a <;> first | (cases ha; done) | (cases q; done)
  · cases b <;> first | (cases hb; done) | (cases q; done)
  · cases c <;> first | (cases hb2; done) | (cases q; done)
section
variable {T : Tab} {E : Ev} {k : Nat} {X : Cx} {W : WX} {pos p spos : Pos}
theorem tA_imp {Y : Sy} {cs : Cs} {σ : L2.St} {H : Hp} {Q Q' : List V → Hp → Prop} (q : tA Y W E cs σ H Q) (f : ∀ vs H1, Q vs H1 → Q' vs H1) : tA Y W E cs σ H Q' := by
  obtain ⟨r, L, h, rl, rh, q⟩ := q
  exact ⟨r, L, h, rl, rh, q.imp f⟩
theorem ss_par {ts : List Nat} {cs : Cs} {t : Expr} {es : List Expr} {k2 : Nat} {p2 : Pos} (o : OkS T E k X W) (hns : noStar cs = true) (hos : oks T X.N cs X.env.scope es = true) (ha : PA X es (tA (sy X) W E cs)) (hp : parOk X.N X.env.scope ts t es = true) : PS X (.Assign [t] (.Tuple es k2 p2) pos) (tS (sy X) W E (.par ts cs)) := by
  have hlen := oks_len hos
  unfold parOk at hp
  split at hp
  · rename_i i j x px y py kt pt a b
    simp only [Bool.and_eq_true, decide_eq_true_eq, Bool.not_eq_true'] at hp
    obtain ⟨⟨⟨⟨⟨⟨⟨⟨⟨⟨h1, h2⟩, h3⟩, h4⟩, h5⟩, h6⟩, h7⟩, h8⟩, h9⟩, h10⟩, h11⟩ := hp
    have ps : PS X (.Assign [.Tuple [.Name x px, .Name y py] kt pt] (.Tuple [a, b] k2 p2) pos) _ := ps_par o.calm o.nd h1 h2 (neOf h3) (locOf h4) (locOf h5) ha (sw2 o.kind (locOf h4) (locOf h5) h6 h7 h8 h9 h10 h11) rfl
    refine PS.imp ps fun D σ H q => tA_imp (par_rd hns (by rw [← hlen]; rfl) q) fun vs H1 ⟨hl, q⟩ => ?_
    rcases vs with _ | ⟨v, _ | ⟨w, _ | ⟨_, _⟩⟩⟩
    · cases hl
    · cases hl
    · exact ⟨v, w, rfl, q⟩
    · simp at hl
  · rename_i i j l x px y py z pz kt pt a b c
    simp only [Bool.and_eq_true, decide_eq_true_eq, Bool.not_eq_true'] at hp
    obtain ⟨⟨⟨⟨⟨⟨⟨⟨⟨⟨⟨⟨⟨⟨⟨⟨⟨⟨h1, h2⟩, h3⟩, h4⟩, h5⟩, h6⟩, h7⟩, h8⟩, h9⟩, h10⟩, h11⟩, h12⟩, h13⟩, h14⟩, h15⟩, h16⟩, h17⟩, h18⟩, h19⟩ := hp
    have ps : PS X (.Assign [.Tuple [.Name x px, .Name y py, .Name z pz] kt pt] (.Tuple [a, b, c] k2 p2) pos) _ := ps_par3 o.calm o.nd h1 h2 h3 (neOf h4) (neOf h5) (neOf h6) (locOf h7) (locOf h8) (locOf h9) ha (sw3 o.kind (locOf h7) (locOf h8) (locOf h9) h10 h11 h12 h13 h14 h15 h16 h17 h18 h19) rfl
    refine PS.imp ps fun D σ H q => tA_imp (par_rd hns (by rw [← hlen]; rfl) q) fun vs H1 ⟨hl, q⟩ => ?_
    rcases vs with _ | ⟨v, _ | ⟨w, _ | ⟨u, _ | ⟨_, _⟩⟩⟩⟩
    · cases hl
    · cases hl
    · cases hl
    · exact ⟨v, w, u, rfl, q⟩
    · simp at hl
  · cases hp
theorem ss_setLc {tg : Tg} {c : C} {t e : Expr} (o : OkS T E k X W) (ht : tgOk X.N fbT X.env.scope tg t = true) (he : okE T X.N c X.env.scope e = true) (hc : isLc c = true) (hs : swOk X.env.scope t e = true) : PS X (.Assign [t] e spos) (tS (sy X) W E (.asg tg c)) := by
  cases c <;> first | (cases hc; done) | skip
  · rename_i m vs tg2 it ifs c
    simp only [okE] at he
    split at he
    · rename_i elt te iter fs scope pos
      simp only [Bool.and_eq_true, Bool.not_eq_true'] at he
      obtain ⟨⟨⟨⟨⟨⟨h1, h2⟩, h3⟩, h4⟩, h5⟩, h6⟩, h7⟩ := he
      cases t <;> first | (cases hs; done) | skip
      rename_i y py
      simp only [swOk, Bool.and_eq_true, Bool.not_eq_true'] at hs
      cases tg with
      | tup ts => simp only [tgOk] at ht; cases ht
      | name i =>
        simp only [tgOk, Bool.and_eq_true, decide_eq_true_eq] at ht
        refine PS.imp (ps_setLc (g := gTg X.K tg2) (tt := tAs (sy X) noW E ifs) (te := tE (sy X) noW E c) o.calm o.nd ht.1 (locOf hs.1.1) (sw_true o.kind (locOf hs.1.1) hs.1.2 hs.2) (snI T E it o.toOk h2) (blkOk_by h1)
          (fun s H C cl fp => pg_of (X := X.blk s H scope (compEnvC scope cl C X.env) fp) o.calm o.nd (fun x hx => hx) h3)
          (fun s H C cl fp => snF T E ifs (X := X.blk s H scope (compEnvC scope cl C X.env) fp) (o.toOk.blk s H scope (compEnvC scope cl C X.env) fp) h5)
          (fun s H C cl fp => (snE T E c (X := X.blk s H scope (compEnvC scope cl C X.env) fp) (o.toOk.blk s H scope (compEnvC scope cl C X.env) fp) h6).pe) (foldSet h7)) fun D σ H q => ?_
        exact lc_rd h4 (asg_rd q)
    · cases he
  · rename_i m vs vs1 tg2 it ifs tg3 it1 ifs1 c
    simp only [okE] at he
    split at he
    · rename_i elt te iter fs te1 iter1 fs1 scope pos
      simp only [Bool.and_eq_true, Bool.not_eq_true'] at he
      obtain ⟨⟨⟨⟨⟨⟨⟨⟨⟨⟨⟨⟨h1, h2⟩, h3⟩, h4⟩, h5⟩, g2⟩, g3⟩, g4⟩, g5⟩, g6⟩, h6⟩, h7⟩, h8⟩ := he
      cases t <;> first | (cases hs; done) | skip
      rename_i y py
      simp only [swOk, Bool.and_eq_true, Bool.not_eq_true'] at hs
      cases tg with
      | tup ts => simp only [tgOk] at ht; cases ht
      | name i =>
        simp only [tgOk, Bool.and_eq_true, decide_eq_true_eq] at ht
        refine PS.imp (ps_setLc2 (vs1 := vs1) (wi1 := tI (sy X) noW E it1) (g := gTg X.K tg2) (g1 := gTg X.K tg3) (tt := tAs (sy X) noW E ifs) (tt1 := tAs (sy X) noW E ifs1) (te := tE (sy X) noW E c) o.calm o.nd ht.1 (locOf hs.1.1) (sw_true o.kind (locOf hs.1.1) hs.1.2 hs.2) (snI T E it o.toOk h2) (blkOk_by h1) (fun i hi => by
            rw [List.map_map]
            have z := List.all_eq_true.mp g5 i hi
            simpa using z)
          (fun s H C cl fp => pg_of (X := X.blk s H scope (compEnvC scope cl C X.env) fp) o.calm o.nd (fun x hx => hx) h3)
          (fun s H C cl fp => snF T E ifs (X := X.blk s H scope (compEnvC scope cl C X.env) fp) (o.toOk.blk s H scope (compEnvC scope cl C X.env) fp) h5)
          (fun s H C cl fp => snI T E it1 (X := X.blk s H scope (compEnvC scope cl C X.env) fp) (o.toOk.blk s H scope (compEnvC scope cl C X.env) fp) g2)
          (fun s H C cl fp => pg_of (X := X.blk s H scope (compEnvC scope cl C X.env) fp) o.calm o.nd (fun x hx => hx) g3)
          (fun s H C cl fp => snF T E ifs1 (X := X.blk s H scope (compEnvC scope cl C X.env) fp) (o.toOk.blk s H scope (compEnvC scope cl C X.env) fp) g6)
          (fun s H C cl fp => (snE T E c (X := X.blk s H scope (compEnvC scope cl C X.env) fp) (o.toOk.blk s H scope (compEnvC scope cl C X.env) fp) h6).pe) (foldSet h7) (fun env => foldSet h8)) fun D σ H q => ?_
        exact lc2_rd h4 g4 (asg_rd q)
    · cases he
end
mutual
theorem snS (T : Tab) (E : Ev) : ∀ (c : S) {k : Nat} {X : Cx} {W : WX} {s : Stmt}, OkS T E k X W → okS T X.N c X.env.scope s = true → PS X s (tS (sy X) W E c)
  | .expr c, k, X, W, s, o, h => by
    simp only [okS] at h
    split at h
    · simp only [Bool.and_eq_true, Bool.not_eq_true'] at h
      exact ss_expr (snE T E c o.toOk h.2).pe h.1
    · cases h
  | .asg tg c, k, X, W, s, o, h => by
    simp only [okS] at h
    split at h
    · simp only [Bool.and_eq_true, Bool.or_eq_true, Bool.not_eq_true'] at h
      obtain ⟨⟨h1, h2⟩, h3⟩ := h
      rcases h3 with (h3 | h3) | h3
      · exact ss_asg o h1 (snE T E c o.toOk h2).pe h3.1 h3.2
      · exact ss_setLc o h1 h2 h3.1 h3.2
      · exact ss_asgN o h1 (snE T E c o.toOk h2).pe h3
    · cases h
  | .par ts cs, k, X, W, s, o, h => by
    simp only [okS] at h
    split at h
    · simp only [Bool.and_eq_true] at h
      exact ss_par o h.1.2 h.1.1 (snA T E cs o.toOk h.1.1) h.2
    · cases h
  | .sset a b c, k, X, W, s, o, h => by
    simp only [okS] at h
    split at h
    · simp only [Bool.and_eq_true, Bool.not_eq_true'] at h
      obtain ⟨⟨⟨⟨h1, h2⟩, h3⟩, h4⟩, h5⟩ := h
      exact ss_sset (snE T E a o.toOk h1).pe (snE T E b o.toOk h2).pe (snE T E c o.toOk h3).pe h4 h5
    · cases h
  | .fset a f c, k, X, W, s, o, h => by
    simp only [okS] at h
    split at h
    · simp only [Bool.and_eq_true, Bool.not_eq_true', decide_eq_true_eq] at h
      obtain ⟨⟨⟨rfl, h1⟩, h2⟩, h3⟩ := h
      exact ss_fset o (snE T E a o.toOk h1).pe (snE T E c o.toOk h2).pe h3
    · cases h
  | .raise c, k, X, W, s, o, h => by
    simp only [okS] at h
    split at h
    · simp only [Bool.and_eq_true, decide_eq_true_eq] at h
      exact ss_raise o h.1 h.2
    · cases h
  | .tryC b c e, k, X, W, s, o, h => by
    simp only [okS] at h
    split at h
    · simp only [Bool.and_eq_true, decide_eq_true_eq] at h
      obtain ⟨⟨⟨⟨h1, h2⟩, h3⟩, h4⟩, h5⟩ := h
      exact ss_try o h2 h3 h4 h5 fun W' pn xe tk hp => snSs T E b (o.tr tk hp) h1
    · cases h
  | .aug op i c, k, X, W, s, o, h => by
    simp only [okS] at h
    split at h
    · simp only [Bool.and_eq_true, Bool.or_eq_true, decide_eq_true_eq] at h
      obtain ⟨⟨⟨⟨rfl, h1⟩, h2⟩, h3⟩, h4⟩ := h
      exact ss_aug o h1 h2 h3 (snE T E c o.toOk h4).pe
    · cases h
  | .ret c, k, X, W, s, o, h => by
    simp only [okS] at h
    split at h
    · exact ss_ret (snE T E c o.toOk h).pe
    · cases h
  | .retN, k, X, W, s, o, h => by
    simp only [okS] at h
    split at h
    · exact ss_retN
    · cases h
  | .ife c a b, k, X, W, s, o, h => by
    simp only [okS] at h
    split at h
    · simp only [Bool.and_eq_true] at h
      exact ss_if (snE T E c o.toOk h.1.1).pt (snSs T E a o h.1.2) (snSs T E b o h.2)
    · cases h
  | .whl c b, k, X, W, s, o, h => by
    simp only [okS] at h
    split at h
    · simp only [Bool.and_eq_true] at h
      exact ss_while o (snE T E c o.toOk h.1).pt (snSs T E b o h.2)
    · cases h
  | .for tg it b, k, X, W, s, o, h => by
    simp only [okS] at h
    split at h
    · simp only [Bool.and_eq_true, Bool.not_eq_true'] at h
      obtain ⟨⟨⟨h1, h2⟩, h3⟩, h4⟩ := h
      exact ss_for o h1 (snI T E it o.toOk h2) (snSs T E b o h3) h4
    · cases h
  | .never, k, X, W, s, o, h => ss_never
  | .pass, k, X, W, s, o, h => by
    simp only [okS] at h
    split at h
    · exact ss_pass
    · cases h
  | .brk, k, X, W, s, o, h => by
    simp only [okS] at h
    split at h
    · exact ss_brk
    · cases h
  | .cont, k, X, W, s, o, h => by
    simp only [okS] at h
    split at h
    · exact ss_cont
    · cases h
theorem snSs (T : Tab) (E : Ev) : ∀ (c : Ss) {k : Nat} {X : Cx} {W : WX} {s : List Stmt}, OkS T E k X W → okSs T X.N c X.env.scope s = true → PSs X s (tSs (sy X) W E c)
  | .nil, k, X, W, s, o, h => by
    simp only [okSs] at h
    split at h
    · exact sss_nil
    · cases h
  | .cons c r, k, X, W, s, o, h => by
    simp only [okSs] at h
    split at h
    · simp only [Bool.and_eq_true] at h
      exact sss_cons (snS T E c o h.1) (snSs T E r o h.2)
    · cases h
end
/-! ### defs -/
structure Df where
  x : Str
  qual : Str
  params : Arguments
  body : List Stmt
  scope : Scope
  dvs : List V
  kws : List (Str × V)
  N : List Str
  ps : List Str
/-- what is known of a def -/
structure FnF (Y : Sy) (T : Tab) (p : Prg) (f : Nat) (d : Df) (a : Addr) (fd : FuncData) : Prop where
  df : FunD Y.K d.x d.qual d.params d.body d.scope d.dvs d.kws a fd
  sc : FnScope d.N d.ps d.scope
  fn : ∃ fn, p.fns[f]? = some fn ∧ fn.np = d.ps.length ∧ fn.nn = d.N.length ∧ okSs T d.N fn.body d.scope d.body = true
  bind : ∀ (sh n : Nat) (kn : List Str) (sl : List Sl), T.shs[sh]? = some (f, n, kn, sl) → p.shs[sh]? = some sl ∧ BindOk Y fd d.ps n kn sl
/-- .. of an own class -/
structure ClF (Y : Sy) (T : Tab) (p : Prg) (cl : Cl) (C : Addr) : Prop where
  ck : ClK Y p.cs cl C
  prp : ∀ f g, cl.props.lookup f = some g → p.ab.contains g = false → ∃ pr a d fd, PropOf Y.K C f pr a ∧ FnF Y T p g d a fd ∧ Binds Y.K fd d.ps []
  mth : ∀ m g, cl.meths.lookup m = some g → p.ab.contains g = false → ∃ a d fd, Meth Y.K C m a ∧ FnF Y T p g d a fd ∧ Binds Y.K fd d.ps []
  ini : ∀ f, cl.init = some f → p.ab.contains f = false → ∃ a d fd, Mk Y.K C a ∧ FnF Y T p f d a fd
/-- what is known of the program -/
structure PrF (Y : Sy) (T : Tab) (p : Prg) : Prop where
  blt : ∀ f : B, Y.mg (nameB f) = none
  typ : ∀ x ∈ tyNames, Y.mg x = none
  rng : Y.mg "range" = none
  enu : Y.mg "enumerate" = none
  zip : Y.mg "zip" = none
  set : Y.mg "set" = none
  obj : PySem.W.specialIn Y.K (.builtin "object.__class__") "__get__" = some (some (.builtin "getset_descriptor.__get__")) ∧ PySem.W.takesIn Y.K (.builtin "object.__class__") = some true
  glo : ∀ (i : Nat) (x : Str) (d : D), T.gs[i]? = some (some x) → p.G[i]? = some d → ∃ u v, Y.mg x = some u ∧ RelV v u ∧ ∀ r H, RD Y r H d v
  fns : ∀ f x, T.fns[f]? = some (some x) → ∃ d a fd, Y.mg x = some (.ref a) ∧ FnF Y T p f d a fd
  cnm : ∀ (c : Nat) (x : Str), T.cs[c]? = some (some x) → ∃ cl C, p.cs[c]? = some cl ∧ cl.nm = x ∧ Y.mg x = some (.ref C) ∧ (∀ f, T.ini[c]? = some (some f) → cl.exc = false ∧ cl.init = some f ∧ p.ab.contains f = false)
  cls : ∀ cl ∈ p.cs, cl.exc = false → ∀ C, Y.mg cl.nm = some (.ref C) → ClF Y T p cl C
  xcs : ∀ cl ∈ p.cs, cl.exc = true → ∀ C, Y.mg cl.nm = some (.ref C) → XcK Y p.cs cl C
  crf : ∀ cl ∈ p.cs, ∀ v, Y.mg cl.nm = some v → ∃ C, v = .ref C
abbrev evAt (p : Prg) (k : Nat) : Ev := ⟨p.G, p.shs, run p k, p.wf, p.cs, p.ab⟩
theorem init_rel {Y : Sy} {r : Rg} {H : Hp} {N : List Str} {nn : Nat} {ds : List D} {vs : List V} (h : RDs Y r H ds vs) (hn : nn = N.length) : RelL Y r H (L2.start N vs) (initL nn ds) := by
  refine ⟨?_, fun i d e => ?_⟩
  · simp only [L2.start, initL, List.length_append, List.length_map, List.length_replicate, h.length, hn]
  · unfold initL at e
    unfold L2.start
    by_cases hi : i < ds.length
    · rw [List.getElem?_append_left (by rw [List.length_map]; exact hi), List.getElem?_map] at e
      rw [List.getElem?_append_left (by rw [List.length_map, h.length]; exact hi), List.getElem?_map]
      obtain ⟨d', h1, h2⟩ := Option.map_eq_some_iff.mp e
      cases h2
      obtain ⟨v, h3, h4⟩ := h.get h1
      exact ⟨v, by rw [h3]; rfl, h4⟩
    · rw [List.getElem?_append_right (by rw [List.length_map]; omega)] at e
      have := List.mem_of_getElem? e
      rw [List.mem_replicate] at this
      cases this.2
theorem end_post {Y : Sy} {r : Rg} {H : Hp} {h : Hs} {Ex : XK} {Q : VK} {res : SR} (R : RelH Y r H h) (p : Post Y (RD Y) r H Ex (endS h.length res) Q) : PostS Y (fun cls d _ H => Ex cls d H) r H { nx := fun _ H' => Q .non H', rt := Q } res := by
  cases res with
  | next L h2 => exact fun r' H' σ' e R' _ => done_post R e R' RD.non' p
  | ret d h2 => exact fun r' H' v e R' hv => done_post R e R' hv p
  | brk L h2 => exact p.elim
  | cont L h2 => exact p.elim
  | exc c x L h2 => exact fun r' H' σ' cls d e R' _ x => exc_post R e R' x p
  | bad => exact p.elim
section
variable {P : Program} {w : World} {K : PySem.W.Frag} {mg : Str → Option Value} {base : Heap} {T : Tab} {p : Prg}
/-- what is known where a def's body runs, the defs held at level k -/
theorem ok_of (F : PrF ⟨P, w, K, mg⟩ T p) {k : Nat} {X : Cx} {W : WX} (hX : sy X = ⟨P, w, K, mg⟩) (hfn : ∀ (f : Nat) (d : Df) (a : Addr) (fd : FuncData), FnF ⟨P, w, K, mg⟩ T p f d a fd → FnOk X.prog X.w X.K X.mg X.base (CX X.prog X.w) (2 * k) a fd d.ps (spF (sy X) (evAt p k) f)) (calm : X.calm = true) (tk : Takes X W) (room : Room (2 * k + 1) X.A) (nd : X.N.Nodup) : Ok T (evAt p k) k X W := by
  cases X
  simp only [sy, Sy.mk.injEq] at hX
  obtain ⟨rfl, rfl, rfl, rfl⟩ := hX
  exact {
    calm := calm
    tk := tk
    room := room
    nd := nd
    blt := F.blt
    typ := F.typ
    rng := F.rng
    enu := F.enu
    zip := F.zip
    glo := F.glo
    set := F.set
    obj := F.obj
    cnm := F.cnm
    xcs := F.xcs
    crf := F.crf
    fns := fun f x hx => by
      obtain ⟨d', a', fd', m, G'⟩ := F.fns f x hx
      exact ⟨a', fd', d'.ps, m, G'.df.kp, hfn f d' a' fd' G', G'.bind⟩
    cls := fun cl hc he C hC => by
      have q := F.cls cl hc he C hC
      refine ⟨q.ck, fun f g h1 h2 => ?_, fun f g h1 h2 => ?_, fun f h1 h2 => ?_⟩
      · obtain ⟨pr, a, d, fd, z1, z2, z3⟩ := q.prp f g h1 h2
        exact ⟨pr, a, fd, d.ps, z1, hfn g d a fd z2, z3⟩
      · obtain ⟨a, d, fd, z1, z2, z3⟩ := q.mth f g h1 h2
        exact ⟨a, fd, d.ps, z1, hfn g d a fd z2, z3⟩
      · obtain ⟨a, d, fd, z1, z2⟩ := q.ini f h1 h2
        exact ⟨a, fd, d.ps, z1, hfn f d a fd z2, z2.bind⟩ }
theorem fn_ok (F : PrF ⟨P, w, K, mg⟩ T p) : ∀ (k f : Nat) (d : Df) (a : Addr) (fd : FuncData), FnF ⟨P, w, K, mg⟩ T p f d a fd → FnOk P w K mg base (CX P w) (2 * k) a fd d.ps (spF ⟨P, w, K, mg⟩ (evAt p k) f)
  | 0, f, d, a, fd, G => ⟨fun vs H Q E ⟨r, ds, h, _, _, q⟩ => q.elim, fun A outer s H args us vs Q E hr e0 hb hv ⟨r, ds, h, _, _, q⟩ => q.elim⟩
  | k + 1, f, d, a, fd, G => by
    obtain ⟨fn, f1, f2, f3, f4⟩ := G.fn
    have eqn : ∀ ds h, (evAt p (k + 1)).call f ds h = if Nat.beq ds.length fn.np then endS h.length (exSs (evAt p k) fn.body (initL fn.nn ds) h) else .bad := fun ds h => by
      show run p (k + 1) f ds h = _
      simp only [run, f1]
    show FnOk P w K mg base (CX P w) ((2 * k + 1) + 1) a fd d.ps _
    refine FunD.ok G.df G.sc (fun vs H Q E ⟨r, ds, h, _, hd, q⟩ => ?_) fun cdv A outer s H vs Q E hr ⟨r, ds, h, R, hd, q⟩ => ?_
    · rw [eqn] at q
      split at q
      · rename_i hl
        rw [hd.length, ← f2]
        exact Nat.eq_of_beq_eq_true hl
      · exact q.elim
    · rw [eqn] at q
      split at q
      · have ok : OkS T (evAt p k) k (cxOf (CX P w) P w K mg base d.N d.qual d.scope a cdv A outer s H E) (fun cls d _ H => E cls d H) := {
          toOk := ok_of F rfl (fun f d a fd G' => fn_ok F k f d a fd G') rfl (takes_of rfl rfl rfl rfl) hr G.sc.nd
          hp := passes_of rfl
          fn := fun _ => rfl
          kind := G.sc.kind
          stk := rfl
          frm := rfl }
        exact ⟨_, snSs T (evAt p k) fn.body ok f4, r, _, h, init_rel hd f3, R, end_post R q⟩
      · exact q.elim
end
end EV

set_option Elab.async false
set_option linter.all false
set_option maxRecDepth 100000
set_option maxHeartbeats 4000000
/-! EV 17: the head's facts, the law's end. -/
namespace EV
open PySem PySem.Spec PyProof.Rows L2
open He (ba)

/-! ### a value as the head has it -/
mutual
def rdB (K : PySem.W.Frag) : D → Value → Bool
  | .non, u => (match u with
    | .none => true
    | _ => false)
  | .bl b, u => (match u with
    | .bool c => b == c
    | _ => false)
  | .int i, u => (match u with
    | .int j _ => decide (i = j)
    | _ => false)
  | .str x, u => (match u with
    | .str y _ => decide (x = y)
    | _ => false)
  | .ty n, u => (match u with
    | .type m => decide (n = m)
    | _ => false)
  | .tup ds, u => (match u with
    | .ref a => (match K.lookup a with
      | some ⟨.type c, _, .seq its _, _⟩ => decide (c = "tuple") && (decide (its.size ≤ sizeLine) && rdsB K ds its.toList)
      | _ => false)
    | _ => false)
  | .loc _, _ => false
  | .glo _, _ => false
  | .lst _, _ => false
  | .dic _ _, _ => false
  | .obj _ _ _, _ => false
def rdsB (K : PySem.W.Frag) : List D → List Value → Bool
  | [], us => (match us with
    | [] => true
    | _ => false)
  | d :: ds, us => (match us with
    | u :: us => rdB K d u && rdsB K ds us
    | _ => false)
end
mutual
theorem rdB_ok {Y : Sy} : ∀ {d : D} {u : Value}, rdB Y.K d u = true → ∃ v, RelV v u ∧ ∀ r H, RD Y r H d v
  | .non, u, h => by
    cases u <;> first | (simp only [rdB] at h; cases h; done) | exact ⟨.non, rfl, fun _ _ => RD.non'⟩
  | .bl b, u, h => by
    cases u <;> simp only [rdB] at h <;> first | cases h; done | skip
    cases eq_of_beq h
    exact ⟨.bl b, rfl, fun _ _ => RD.bl'⟩
  | .int i, u, h => by
    cases u <;> simp only [rdB] at h <;> first | cases h; done | skip
    cases of_decide_eq_true h
    exact ⟨.int i, ⟨_, rfl⟩, fun _ _ => RD.int'⟩
  | .str x, u, h => by
    cases u <;> simp only [rdB] at h <;> first | cases h; done | skip
    cases of_decide_eq_true h
    exact ⟨.str x, ⟨_, rfl⟩, fun _ _ => RD.str'⟩
  | .ty n, u, h => by
    cases u <;> simp only [rdB] at h <;> first | cases h; done | skip
    cases of_decide_eq_true h
    exact ⟨.ty n, rfl, fun _ _ => by simp only [RD]⟩
  | .tup ds, u, h => by
    cases u <;> simp only [rdB] at h <;> first | cases h; done | skip
    rename_i a
    split at h
    · rename_i c od its n osl q
      obtain ⟨h1, h2⟩ := ba h
      obtain ⟨h3, h4⟩ := ba h2
      obtain ⟨vs, r1, r2⟩ := rdsB_ok (Y := Y) h4
      refine ⟨.ref a, rfl, fun r H => ?_⟩
      simp only [RD]
      exact ⟨a, vs, rfl, .inr ⟨_, its, n, q, congrArg Value.type (of_decide_eq_true h1), rfl, of_decide_eq_true h3, r1⟩, r2 r H⟩
    · cases h
  | .loc _, u, h => by simp only [rdB] at h; cases h
  | .glo _, u, h => by simp only [rdB] at h; cases h
  | .lst _, u, h => by simp only [rdB] at h; cases h
  | .dic _ _, u, h => by simp only [rdB] at h; cases h
  | .obj _ _ _, u, h => by simp only [rdB] at h; cases h
theorem rdsB_ok {Y : Sy} : ∀ {ds : List D} {us : List Value}, rdsB Y.K ds us = true → ∃ vs, Vals vs us ∧ ∀ r H, RDs Y r H ds vs
  | [], us, h => by
    cases us with
    | nil => exact ⟨[], .nil, fun _ _ => RDs.nil⟩
    | cons u us => simp only [rdsB] at h; cases h
  | d :: ds, us, h => by
    cases us with
    | nil => simp only [rdsB] at h; cases h
    | cons u us =>
      simp only [rdsB] at h
      obtain ⟨h1, h2⟩ := ba h
      obtain ⟨v, r1, r2⟩ := rdB_ok (Y := Y) h1
      obtain ⟨vs, r3, r4⟩ := rdsB_ok (Y := Y) h2
      exact ⟨v :: vs, .cons r1 r3, fun r H => RDs.cons (r2 r H) (r4 r H)⟩
end
/-! ### what is asked of the head's heap -/
/-- one def: where it lies, its name and qualified name, parameters, body, scope, defaults -/
structure DefE where
  ad : PySem.W.Frag → Addr
  name : Str
  qual : Str
  params : Arguments
  body : List Stmt
  scope : Scope
  dfl : List He.Dv
  kwd : List (Str × He.Dv)
def gA (x : Str) (K : PySem.W.Frag) : Addr := He.ga K x
def mA (c m : Str) (K : PySem.W.Frag) : Addr := He.ma K (He.ga K c) m
/-- a property's getter -/
def pA (c f : Str) (K : PySem.W.Frag) : Addr := match PySem.W.recIn K (mA c f K) "property" with
  | some (.ref g :: _) => g
  | _ => 0
def fnE (K : PySem.W.Frag) (a : Addr) : He.FnW := match K.lookup a with
  | some ⟨_, _, .func q, _⟩ => some (q.name, q.qualname, q.params, q.body, q.scope, q.globals, q.closure, q.builtins)
  | _ => none
def DefE.val (d : DefE) : He.FnW := some (d.name, d.qual, d.params, .stmts d.body, d.scope, mainGlobals, [], builtinsNs)
def DefE.dvs (K : PySem.W.Frag) (d : DefE) : List V := d.dfl.map (He.Dv.v K)
def DefE.kws (K : PySem.W.Frag) (d : DefE) : List (Str × V) := d.kwd.map fun q => (q.1, q.2.v K)
def DefE.ok (K : PySem.W.Frag) (d : DefE) : Bool := PySem.W.keepIn K (.ref (d.ad K)) && (match K.lookup (d.ad K) with
  | some ⟨_, _, .func q, _⟩ => PySem.W.codeIn K q.code d.qual && (He.dflB K q.defaults (d.dvs K) && He.kwdB K q.kwdefaults (d.kws K))
  | _ => false)
theorem DefE.funD {K : PySem.W.Frag} {d : DefE} (e : fnE K (d.ad K) = d.val) (c : d.ok K = true) : ∃ fd, FunD K d.name d.qual d.params d.body d.scope (d.dvs K) (d.kws K) (d.ad K) fd := by
  obtain ⟨kp, c⟩ := ba c
  unfold fnE at e
  cases q : K.lookup (d.ad K) with
  | none => rw [q] at c; cases c
  | some o =>
    obtain ⟨oc, od, dt, osl⟩ := o
    rw [q] at c e
    cases dt with
    | func fd =>
      obtain ⟨m1, m2, m3, m4, m5, m6, m7, m8, m9, m10, m11, m12, m13, m14, m15⟩ := fd
      have e : (some (m1, m2, m3, m4, m5, m6, m7, m15) : He.FnW) = some (d.name, d.qual, d.params, .stmts d.body, d.scope, mainGlobals, [], builtinsNs) := e
      simp only [Option.some.injEq, Prod.mk.injEq] at e
      obtain ⟨h1, h2, h3, h4, h5, h6, h7, h8⟩ := e
      subst h1 h2 h3 h4 h5 h6 h7 h8
      have c : (PySem.W.codeIn K m13 d.qual && (He.dflB K m8 (d.dvs K) && He.kwdB K m9 (d.kws K))) = true := c
      exact ⟨_, ⟨oc, od, m8, m9, m10, m11, m12, m13, m14, osl, rfl, q, (ba c).1, He.dflB_ok (ba (ba c).2).1, He.kwdB_ok (ba (ba c).2).2⟩, kp⟩
    | _ => cases c
structure Chk where
  glo : List (Str × D)
  free : List Str
  dk : List ((PySem.W.Frag → Addr) × Str × D)
  cs : List Cl
  ab : List Nat
  mad : List (Nat × (PySem.W.Frag → Addr))
  iad : List (Nat × (PySem.W.Frag → Addr))
/-- the keyword default y of the def f -/
def kwV (f : PySem.W.Frag → Addr) (y : Str) (K : PySem.W.Frag) : Option Value := match K.lookup (f K) with
  | some ⟨_, _, .func fd, _⟩ => (match fd.kwdefaults with
    | .ref d => (match PySem.W.nsIn K d y with
      | some (some u) => some u
      | _ => none)
    | _ => none)
  | _ => none
def kwAt (f : PySem.W.Frag → Addr) (y : Str) (K : PySem.W.Frag) : Addr := match kwV f y K with
  | some (.ref a) => a
  | _ => 0
def gloB (K : PySem.W.Frag) (x : Str) (d : D) : Bool := match PySem.W.nsIn K mainGlobals x with
  | some (some u) => rdB K d u
  | _ => false
def absB (K : PySem.W.Frag) (x : Str) : Bool := (He.Fa.free x).ok K
def adN (l : List (Nat × (PySem.W.Frag → Addr))) (g : Nat) (K : PySem.W.Frag) : Option Addr := (l.lookup g).map fun f => f K
/-- the property f -/
def prB (K : PySem.W.Frag) (C : Addr) (f : Str) (g : Addr) : Bool := match PySem.W.findIn K (.ref C) f with
  | some (some (.ref p)) => decide (PySem.W.specialIn K (.ref p) "__get__" = some (some (.builtin "property.__get__"))) && (decide (PySem.W.takesIn K (.ref p) = some true) && (match PySem.W.recIn K p "property" with
    | some (.ref g' :: _) => decide (g' = g)
    | _ => false))
  | _ => false
theorem prB_ok {K : PySem.W.Frag} {C : Addr} {f : Str} {g : Addr} (h : prB K C f g = true) : ∃ p, PropOf K C f p g := by
  unfold prB at h
  split at h
  · rename_i p q
    obtain ⟨h1, h2⟩ := ba h
    obtain ⟨h2, h3⟩ := ba h2
    split at h3
    · rename_i g' rest q2
      cases of_decide_eq_true h3
      exact ⟨p, q, of_decide_eq_true h1, of_decide_eq_true h2, _, q2⟩
    · cases h3
  · cases h
def Chk.meB (c : Chk) (K : PySem.W.Frag) (C : Addr) (q : Str × Nat) : Bool := c.ab.contains q.2 || (match adN c.mad q.2 K with
  | some a => He.eqO (PySem.W.findIn K (.ref C) q.1) (some (some (.ref a))) && (PySem.W.isFn K (.ref a) && PySem.W.keepIn K (.ref a))
  | none => false)
def Chk.prB (c : Chk) (K : PySem.W.Frag) (C : Addr) (q : Str × Nat) : Bool := c.ab.contains q.2 || (match adN c.mad q.2 K with
  | some a => EV.prB K C q.1 a
  | none => false)
def Chk.inB (c : Chk) (K : PySem.W.Frag) (C : Addr) : Option Nat → Bool
  | none => true
  | some f => c.ab.contains f || (match adN c.iad f K with
    | some a => PySem.W.makesIn K C && (He.eqO (PySem.W.findIn K (.ref C) "__init__") (some (some (.ref a))) && (PySem.W.isFn K (.ref a) && PySem.W.keepIn K (.ref C)))
    | none => false)
/-- an own class that is no exception -/
def Chk.clB (c : Chk) (K : PySem.W.Frag) (cl : Cl) : Bool :=
  (He.Fa.cls cl.nm).ok K && ((cl.flds.all fun f => (He.Fa.noat cl.nm f).ok K) && (He.eqO (PySem.W.findIn K (.ref (He.ga K cl.nm)) "__class__") (some (some (.builtin "object.__class__"))) && (decide (PySem.W.mroIn K (He.ga K cl.nm) (.type "object") = some true) &&
  ((c.cs.all fun dl => dl.exc || (absB K dl.nm || decide (PySem.W.kitOne K (.ref (He.ga K cl.nm)) (.ref (He.ga K dl.nm)) = some (cl.sup.contains dl.nm)))) && ((tyVals.all fun t => decide (PySem.W.kitOne K (.type t) (.ref (He.ga K cl.nm)) = some false)) &&
  ((cl.props.all (c.prB K (He.ga K cl.nm))) && ((cl.meths.all (c.meB K (He.ga K cl.nm))) && c.inB K (He.ga K cl.nm) cl.init)))))))
def Chk.xcB (c : Chk) (K : PySem.W.Frag) (cl : Cl) : Bool :=
  (cl.init.isSome || PySem.W.excIn K (He.ga K cl.nm) HandSPX.veTail "ValueError.__new__") && (PySem.W.keepIn K (.ref (He.ga K cl.nm)) && (decide (PySem.W.subIn K (.ref (He.ga K cl.nm)) (.type "BaseException") = some true) && (decide (PySem.W.typeIn K (.ref (He.ga K cl.nm)) = some (.type "type")) &&
  (c.cs.all fun dl => !dl.exc || (absB K dl.nm || decide (PySem.W.exmOne K (.ref (He.ga K cl.nm)) (.ref (He.ga K dl.nm)) = some (cl.sup.contains dl.nm)))))))
def Chk.csB (c : Chk) (K : PySem.W.Frag) : Bool := c.cs.all fun cl => absB K cl.nm || ((He.Fa.glo cl.nm).ok K && (if cl.exc then c.xcB K cl else c.clB K cl))
def obB (K : PySem.W.Frag) : Bool := decide (PySem.W.specialIn K (.builtin "object.__class__") "__get__" = some (some (.builtin "getset_descriptor.__get__"))) && decide (PySem.W.takesIn K (.builtin "object.__class__") = some true)
def Chk.ok (c : Chk) (K : PySem.W.Frag) : Bool :=
  (c.glo.all fun q => gloB K q.1 q.2) && ((c.free.all fun x => (He.Fa.free x).ok K) && ((c.dk.all fun q => rdB K q.2.2 (.ref (kwAt q.1 q.2.1 K))) && ((K.all fun q => !decide (q.2.cls = .type "list")) && (c.csB K && obB K))))
abbrev AlX : Type := Bool × List He.FnW
def obsX (c : Chk) (gn : List Str) (fn : List DefE) (K : PySem.W.Frag) : AlX := (c.ok K && ((gn.all fun x => (He.Fa.glo x).ok K) && fn.all fun d => d.ok K), fn.map fun d => fnE K (d.ad K))
def valX (fn : List DefE) : AlX := (true, fn.map DefE.val)
def SaysX (c : Chk) (gn : List Str) (fn : List DefE) (K : PySem.W.Frag) : Prop := obsX c gn fn K = valX fn
def obsXG (n : Nat) (c : Chk) (gn : List Str) (fn : List DefE) (g : Addr → Option Obj) : AlX := obsX c gn fn (He.frG g (He.asD g n))
def hookX (n : Nat) (c : Chk) (gn : List Str) (fn : List DefE) : PySem.W.Hook where
  α := AlX
  obs := fun s => obsXG n c gn fn s.heap.get?
  val := fun _ => valX fn
  says := fun _ h => ∃ K : PySem.W.Frag, K.In h ∧ SaysX c gn fn K
  of := fun _ _ e => ⟨_, He.frG_in, e⟩
  keeps := fun _ _ _ ⟨K, hK, c⟩ k => ⟨K, PySem.W.Frag.In.keeps hK k, c⟩
theorem obsXG_eq {n : Nat} {c : Chk} {gn : List Str} {fn : List DefE} {g : Addr → Option Obj} {s : Shared} (h : ∀ a, g a = s.heap.get? a) : obsXG n c gn fn g = (hookX n c gn fn).obs s := by
  have e : g = s.heap.get? := funext h
  rw [e] <;> rfl
section
variable {c : Chk} {gn : List Str} {fn : List DefE} {K : PySem.W.Frag} {h : Heap} {mg : Str → Option Value}
theorem SaysX.ok (s : SaysX c gn fn K) : c.ok K = true ∧ (gn.all fun x => (He.Fa.glo x).ok K) = true ∧ (fn.all fun d => d.ok K) = true := by
  have := congrArg (fun z : AlX => z.1) s
  obtain ⟨h1, h2⟩ := ba (show (c.ok K && ((gn.all fun x => (He.Fa.glo x).ok K) && fn.all fun d => d.ok K)) = true from this)
  obtain ⟨h3, h4⟩ := ba h2
  exact ⟨h1, h3, h4⟩
theorem SaysX.def_ (s : SaysX c gn fn K) (i : Nat) {d : DefE} (h : fn[i]? = some d) : ∃ fd, FunD K d.name d.qual d.params d.body d.scope (d.dvs K) (d.kws K) (d.ad K) fd := by
  have e : fn.map (fun d => fnE K (d.ad K)) = fn.map DefE.val := congrArg (fun z : AlX => z.2) s
  have e2 : (fn.map fun d => fnE K (d.ad K))[i]? = (fn.map DefE.val)[i]? := by rw [e]
  rw [List.getElem?_map, List.getElem?_map, h] at e2
  exact DefE.funD (Option.some.inj e2) (List.all_eq_true.mp s.ok.2.2 d (List.mem_of_getElem? h))
theorem SaysX.name (s : SaysX c gn fn K) (X : K.In h) (G : h.Ns mainGlobals mg) (i : Nat) {x : Str} (hd : gn[i]? = some x) : mg x = some (.ref (He.ga K x)) :=
  He.glo_ok X G (List.all_eq_true.mp s.ok.2.1 x (List.mem_of_getElem? hd))
theorem SaysX.free (s : SaysX c gn fn K) (X : K.In h) (G : h.Ns mainGlobals mg) {x : Str} (hx : x ∈ c.free) : mg x = none := by
  obtain ⟨_, h2⟩ := ba (show ((c.glo.all fun q => gloB K q.1 q.2) && _) = true from s.ok.1)
  exact He.free_ok X G (List.all_eq_true.mp (ba h2).1 x hx)
theorem SaysX.glo {P : Program} {w : World} (s : SaysX c gn fn K) (X : K.In h) (G : h.Ns mainGlobals mg) {x : Str} {d : D} (hx : (x, d) ∈ c.glo) : ∃ u v, mg x = some u ∧ RelV v u ∧ ∀ r H, RD ⟨P, w, K, mg⟩ r H d v := by
  obtain ⟨h1, _⟩ := ba (show ((c.glo.all fun q => gloB K q.1 q.2) && _) = true from s.ok.1)
  have z := List.all_eq_true.mp h1 (x, d) hx
  unfold gloB at z
  dsimp only at z
  cases e : PySem.W.nsIn K mainGlobals x with
  | none => rw [e] at z; cases z
  | some o =>
    cases o with
    | none => rw [e] at z; cases z
    | some u =>
      rw [e] at z
      obtain ⟨v, r1, r2⟩ := rdB_ok (Y := ⟨P, w, K, mg⟩) z
      exact ⟨u, v, PySem.W.mg_of X G e, r1, r2⟩
theorem SaysX.kwd {P : Program} {w : World} (s : SaysX c gn fn K) {f : PySem.W.Frag → Addr} {y : Str} {d : D} (hx : (f, y, d) ∈ c.dk) : ∀ r H, RD ⟨P, w, K, mg⟩ r H d (.ref (kwAt f y K)) := by
  obtain ⟨_, h2⟩ := ba (show ((c.glo.all fun q => gloB K q.1 q.2) && _) = true from s.ok.1)
  obtain ⟨_, h3⟩ := ba h2
  have z := List.all_eq_true.mp (ba h3).1 (f, y, d) hx
  obtain ⟨v, r1, r2⟩ := rdB_ok (Y := ⟨P, w, K, mg⟩) (show rdB K d (.ref (kwAt f y K)) = true from z)
  cases v with
  | ref a =>
    have e : Value.ref (kwAt f y K) = .ref a := r1
    cases e
    exact r2
  | int i => obtain ⟨t, e⟩ := r1; cases e
  | str i => obtain ⟨t, e⟩ := r1; cases e
  | non => cases (show Value.ref (kwAt f y K) = Value.none from r1)
  | bl b => cases (show Value.ref (kwAt f y K) = Value.bool b from r1)
  | ty n => cases (show Value.ref (kwAt f y K) = Value.type n from r1)
  | _ => exact absurd r1 (by intro h; obtain ⟨t, e⟩ := h; cases e)
theorem look_mem3 {x : Str} {d : Nat} : ∀ {l : List (Str × Nat)}, l.lookup x = some d → (x, d) ∈ l
  | [], hx => nomatch hx
  | (y, e) :: r, hx => by
    have z : (match x == y with | true => some e | false => List.lookup x r) = some d := hx
    cases hq : x == y with
    | true => rw [hq] at z; cases Option.some.inj z; rw [beq_iff_eq.mp hq]; exact List.mem_cons_self ..
    | false => rw [hq] at z; exact List.mem_cons_of_mem _ (look_mem3 z)
theorem look_memN {β : Type} {x : Nat} {d : β} : ∀ {l : List (Nat × β)}, l.lookup x = some d → (x, d) ∈ l
  | [], hx => nomatch hx
  | (y, e) :: r, hx => by
    have z : (match x == y with | true => some e | false => List.lookup x r) = some d := hx
    cases hq : x == y with
    | true => rw [hq] at z; cases Option.some.inj z; rw [beq_iff_eq.mp hq]; exact List.mem_cons_self ..
    | false => rw [hq] at z; exact List.mem_cons_of_mem _ (look_memN z)
theorem look_mem {a : Addr} {o : Obj} : ∀ {K : PySem.W.Frag}, K.lookup a = some o → (a, o) ∈ K
  | [], hx => nomatch hx
  | (b, ob) :: r, hx => by
    have e : (match a == b with | true => some ob | false => List.lookup a r) = some o := hx
    cases hq : a == b with
    | true =>
      rw [hq] at e
      cases Option.some.inj e
      rw [beq_iff_eq.mp hq]
      exact List.mem_cons_self ..
    | false =>
      rw [hq] at e
      exact List.mem_cons_of_mem _ (look_mem e)
theorem SaysX.noLst (s : SaysX c gn fn K) {a : Addr} {o : Obj} (hx : K.lookup a = some o) : o.cls ≠ .type "list" := by
  obtain ⟨_, h2⟩ := ba (show ((c.glo.all fun q => gloB K q.1 q.2) && _) = true from s.ok.1)
  obtain ⟨_, h3⟩ := ba h2
  obtain ⟨_, h4⟩ := ba h3
  have h4 := (ba h4).1
  have mem : (a, o) ∈ K := look_mem hx
  have z := List.all_eq_true.mp h4 (a, o) mem
  simpa using z
theorem SaysX.csB (s : SaysX c gn fn K) : c.csB K = true ∧ obB K = true := by
  obtain ⟨_, h2⟩ := ba (show ((c.glo.all fun q => gloB K q.1 q.2) && _) = true from s.ok.1)
  obtain ⟨_, h3⟩ := ba h2
  obtain ⟨_, h4⟩ := ba h3
  exact ba (ba h4).2
theorem SaysX.obj (s : SaysX c gn fn K) : PySem.W.specialIn K (.builtin "object.__class__") "__get__" = some (some (.builtin "getset_descriptor.__get__")) ∧ PySem.W.takesIn K (.builtin "object.__class__") = some true := by
  obtain ⟨h1, h2⟩ := ba (show (decide _ && decide _) = true from s.csB.2)
  exact ⟨of_decide_eq_true h1, of_decide_eq_true h2⟩
theorem SaysX.cl (s : SaysX c gn fn K) (X : K.In h) (G : h.Ns mainGlobals mg) {cl : Cl} (hc : cl ∈ c.cs) {v : Value} (hv : mg cl.nm = some v) : v = .ref (He.ga K cl.nm) ∧ absB K cl.nm = false ∧ (if cl.exc then c.xcB K cl else c.clB K cl) = true := by
  have z := List.all_eq_true.mp s.csB.1 cl hc
  cases ha : absB K cl.nm with
  | true =>
    have := He.free_ok X G (show (He.Fa.free cl.nm).ok K = true from ha)
    rw [this] at hv
    cases hv
  | false =>
    rw [ha, Bool.false_or] at z
    obtain ⟨z1, z2⟩ := ba z
    have := He.glo_ok X G z1
    rw [this] at hv
    exact ⟨(Option.some.inj hv).symm, rfl, z2⟩
theorem SaysX.crf (s : SaysX c gn fn K) (X : K.In h) (G : h.Ns mainGlobals mg) : ∀ cl ∈ c.cs, ∀ v, mg cl.nm = some v → ∃ C, v = .ref C := fun cl hc v hv => ⟨_, (s.cl X G hc hv).1⟩
theorem SaysX.xcs {P : Program} {w : World} (s : SaysX c gn fn K) (X : K.In h) (G : h.Ns mainGlobals mg) : ∀ cl ∈ c.cs, cl.exc = true → ∀ C, mg cl.nm = some (.ref C) → XcK ⟨P, w, K, mg⟩ c.cs cl C := fun cl hc he C hC => by
  obtain ⟨e, _, z⟩ := s.cl X G hc hC
  cases e
  rw [if_pos he] at z
  obtain ⟨z1, z⟩ := ba z
  obtain ⟨z2, z⟩ := ba z
  obtain ⟨z3, z⟩ := ba z
  obtain ⟨z4, z5⟩ := ba z
  refine ⟨fun hi => by simpa [hi] using z1, z2, of_decide_eq_true z3, of_decide_eq_true z4, fun dl hd hx D hD => ?_⟩
  obtain ⟨e, hab, _⟩ := s.cl X G hd hD
  cases e
  have y := List.all_eq_true.mp z5 dl hd
  rw [hx, hab] at y
  simpa using y
theorem SaysX.cls {P : Program} {w : World} {T : Tab} {p : Prg} (s : SaysX c gn fn K) (X : K.In h) (G : h.Ns mainGlobals mg) (hcs : p.cs = c.cs) (hab : p.ab = c.ab)
    (hm : ∀ g f, c.mad.lookup g = some f → ∃ d fd, FnF ⟨P, w, K, mg⟩ T p g d (f K) fd ∧ Binds K fd d.ps []) (hi : ∀ g f, c.iad.lookup g = some f → ∃ d fd, FnF ⟨P, w, K, mg⟩ T p g d (f K) fd) :
    ∀ cl ∈ p.cs, cl.exc = false → ∀ C, mg cl.nm = some (.ref C) → ClF ⟨P, w, K, mg⟩ T p cl C := fun cl hc he C hC => by
  rw [hcs] at hc
  obtain ⟨e, _, z⟩ := s.cl X G hc hC
  cases e
  rw [if_neg (by simp [he])] at z
  obtain ⟨z1, z⟩ := ba z
  obtain ⟨z2, z⟩ := ba z
  obtain ⟨z3, z⟩ := ba z
  obtain ⟨z4, z⟩ := ba z
  obtain ⟨z5, z⟩ := ba z
  obtain ⟨z6, z⟩ := ba z
  obtain ⟨z7, z⟩ := ba z
  obtain ⟨z8, z9⟩ := ba z
  refine ⟨⟨He.cls_ok z1, fun f hf => He.noat_ok (List.all_eq_true.mp z2 f hf), He.eqO_ok z3, of_decide_eq_true z4, fun dl hd hx D hD => ?_, fun t ht => of_decide_eq_true (List.all_eq_true.mp z6 t ht)⟩, fun f g h1 h2 => ?_, fun f g h1 h2 => ?_, fun f h1 h2 => ?_⟩
  · rw [hcs] at hd
    obtain ⟨e, hb, _⟩ := s.cl X G hd hD
    cases e
    have y := List.all_eq_true.mp z5 dl hd
    rw [hx, hb] at y
    simpa using y
  · have y := List.all_eq_true.mp z7 (f, g) (look_mem3 h1)
    rw [hab] at h2
    unfold Chk.prB at y
    rw [h2, Bool.false_or] at y
    dsimp only [adN] at y
    cases eq : c.mad.lookup g with
    | none => rw [eq] at y; cases y
    | some q =>
      rw [eq] at y
      obtain ⟨d, fd, F, B⟩ := hm g q eq
      obtain ⟨pr, hp⟩ := prB_ok y
      exact ⟨pr, q K, d, fd, hp, F, B⟩
  · have y := List.all_eq_true.mp z8 (f, g) (look_mem3 h1)
    rw [hab] at h2
    unfold Chk.meB at y
    rw [h2, Bool.false_or] at y
    dsimp only [adN] at y
    cases eq : c.mad.lookup g with
    | none => rw [eq] at y; cases y
    | some q =>
      rw [eq] at y
      obtain ⟨d, fd, F, B⟩ := hm g q eq
      obtain ⟨y1, y⟩ := ba y
      obtain ⟨y2, y3⟩ := ba y
      exact ⟨q K, d, fd, ⟨He.eqO_ok y1, y2, y3⟩, F, B⟩
  · rw [h1] at z9
    unfold Chk.inB at z9
    rw [hab] at h2
    dsimp only at z9
    rw [h2, Bool.false_or] at z9
    dsimp only [adN] at z9
    cases eq : c.iad.lookup f with
    | none => rw [eq] at z9; cases z9
    | some q =>
      rw [eq] at z9
      obtain ⟨d, fd, F⟩ := hi f q eq
      obtain ⟨y1, y⟩ := ba z9
      obtain ⟨y2, y⟩ := ba y
      obtain ⟨y3, y4⟩ := ba y
      exact ⟨q K, d, fd, ⟨y1, He.eqO_ok y2, y3, y4⟩, F⟩
theorem SaysX.cnm {p : Prg} {T : Tab} (s : SaysX c gn fn K) (X : K.In h) (G : h.Ns mainGlobals mg) (hcs : p.cs = c.cs) (hnb : T.cs = c.cs.map fun cl => if (c.free.contains cl.nm) then none else some cl.nm)
    (hg : (c.cs.all fun cl => c.free.contains cl.nm || gn.contains cl.nm) = true) (hi : (T.ini.zip c.cs).all (fun q => match q.1 with
      | some f => !q.2.exc && (decide (q.2.init = some f) && !p.ab.contains f)
      | none => true) = true) : ∀ (i : Nat) (x : Str), T.cs[i]? = some (some x) → ∃ cl C, p.cs[i]? = some cl ∧ cl.nm = x ∧ mg x = some (.ref C) ∧ (∀ f, T.ini[i]? = some (some f) → cl.exc = false ∧ cl.init = some f ∧ p.ab.contains f = false) := fun i x e => by
  rw [hnb, List.getElem?_map] at e
  cases q : c.cs[i]? with
  | none => rw [q] at e; cases e
  | some cl =>
    rw [q] at e
    simp only [Option.map_some, Option.some.injEq] at e
    split at e
    · cases e
    · rename_i hfree
      cases e
      have hm := List.mem_of_getElem? q
      have y := List.all_eq_true.mp hg cl hm
      rw [Bool.or_eq_true] at y
      have y2 : cl.nm ∈ gn := by
        rcases y with y | y
        · exact absurd y hfree
        · simpa using y
      refine ⟨cl, He.ga K cl.nm, by rw [hcs, q], rfl, He.glo_ok X G (List.all_eq_true.mp s.ok.2.1 _ y2), fun f hf => ?_⟩
      have hz : (T.ini.zip c.cs)[i]? = some (some f, cl) := by
        rw [List.getElem?_zip_eq_some]; exact ⟨hf, q⟩
      have y3 := List.all_eq_true.mp hi _ (List.mem_of_getElem? hz)
      simp only [Bool.and_eq_true, Bool.not_eq_true', decide_eq_true_eq] at y3
      exact ⟨y3.1, y3.2.1, y3.2.2⟩
end
/-! ### how calls bind -/
section
variable {Y : Sy} {x qual : Str} {params : Arguments} {body : List Stmt} {scope : Scope} {dvs : List V} {kws : List (Str × V)} {f : Addr} {fd : FuncData} {ps : List Str} {n : Nat} {kn : List Str}
def posS {α : Type} (n : Nat) : List (Slp α) := (List.range n).map .pos
/-- every parameter is given -/
theorem bind_all (F : FunD Y.K x qual params body scope [] kws f fd) {sl : List Sl} {sv : List (Slp V)} {su : List (Slp Value)} (hs : SlRs Y sl sv su)
    (h : ∀ (kV doc pm : Value) (an : Option Addr) (cdv ct : Value) (us ws : List Value), us.length = n → ws.length = kn.length → ∃ full, arr us ws su = some full ∧ bindArgs (PySem.W.fnOf x qual params body scope .none kV doc pm an cdv ct) ⟨us, kn.zip ws⟩ = pure (ps.zip full)) : BindOk Y fd ps n kn sl := by
  obtain ⟨oc, od, dV, kV, doc, pm, an, cdv, ct, osl, rfl, lk, hcd, hD, hK⟩ := F.ex
  rcases hD with ⟨_, rfl⟩ | ⟨e, _⟩
  · refine ⟨sv, su, hs, fun s us ws X l1 l2 => ?_⟩
    obtain ⟨full, e1, e2⟩ := h kV doc pm an cdv ct us ws l1 l2
    exact ⟨full, e1, .of_eq e2⟩
  · exact absurd rfl e
/-- defaults stand in behind the values -/
theorem bind_tail {vs0 : List V} {ds : List Value} (r1 : Vals vs0 ds) (hb : Binds Y.K fd ps ds) (hn : n + vs0.length = ps.length) {sl : List Sl} {dd : List D} (hsl : sl = posS n ++ dd.map .dfl) (hd : ∀ r H, RDs Y r H dd vs0) : BindOk Y fd ps n [] sl := by
  have key : ∀ (dd : List D) (vs : List V) (us : List Value), (∀ r H, RDs Y r H dd vs) → Vals vs us → SlRs Y (dd.map .dfl) (vs.map .dfl) (us.map .dfl) := by
    intro dd
    induction dd with
    | nil =>
      intro vs us h r
      have : vs = [] := RDs.nil_inv (h ⟨[], []⟩ fun _ => none)
      subst this
      cases r
      exact trivial
    | cons d dd ih =>
      intro vs us h r
      cases vs with
      | nil =>
        obtain ⟨_, _, e, _⟩ := (h ⟨[], []⟩ fun _ => none).cons_inv
        cases e
      | cons v vs =>
        cases r with
        | cons r1 r2 =>
          refine ⟨⟨fun r H => ?_, r1⟩, ih _ _ (fun r H => ?_) r2⟩
          · obtain ⟨v', t, e, h1, h2⟩ := (h r H).cons_inv
            cases e
            exact h1
          · obtain ⟨v', t, e, h1, h2⟩ := (h r H).cons_inv
            cases e
            exact h2
  have keyp : ∀ (m j : Nat) (a : List Sl) (b : List (Slp V)) (c : List (Slp Value)), SlRs Y a b c → SlRs Y (((List.range' j m).map .pos) ++ a) (((List.range' j m).map .pos) ++ b) (((List.range' j m).map .pos) ++ c) := by
    intro m
    induction m with
    | zero => intro j a b c h; exact h
    | succ m ih => intro j a b c h; exact ⟨⟨rfl, rfl⟩, ih (j + 1) a b c h⟩
  have arrD : ∀ (us ws ds : List Value), arr us ws (ds.map .dfl) = some ds := by
    intro us ws ds
    induction ds with
    | nil => rfl
    | cons d ds ih => simp only [List.map_cons, arr, arr1, ih]
  have arrP : ∀ (us pre ws rest : List Value) (su : List (Slp Value)), arr (pre ++ us) ws su = some rest → arr (pre ++ us) ws ((List.range' pre.length us.length).map .pos ++ su) = some (us ++ rest) := by
    intro us
    induction us with
    | nil => intro pre ws rest su h; exact h
    | cons u us ih =>
      intro pre ws rest su h
      have e := ih (pre ++ [u]) ws rest su (by simpa using h)
      simp only [List.append_assoc, List.singleton_append, List.length_append, List.length_cons, List.length_nil, Nat.zero_add] at e
      simp only [List.length_cons, List.range'_succ, List.map_cons, List.cons_append, arr, arr1]
      rw [List.getElem?_append_right (Nat.le_refl _)]
      simp only [Nat.sub_self, List.getElem?_cons_zero, e]
  refine ⟨posS n ++ vs0.map .dfl, posS n ++ ds.map .dfl, ?_, fun s us ws X l1 l2 => ?_⟩
  · rw [hsl]
    unfold posS
    rw [List.range_eq_range']
    exact keyp n 0 _ _ _ (key dd _ _ hd r1)
  · have ws0 : ws = [] := List.eq_nil_of_length_eq_zero l2
    subst ws0
    refine ⟨us ++ ds, ?_, ?_⟩
    · unfold posS
      rw [List.range_eq_range', ← l1]
      exact arrP us [] [] ds _ (arrD _ _ _)
    · refine hb s us X ?_
      rw [List.length_append, l1, ← r1.length]
      exact hn
/-- keyword-only defaults stand in -/
theorem bind_kw (F : FunD Y.K x qual params body scope [] kws f fd) (hk : kws ≠ []) (hn : n + kws.length = ps.length) {sl : List Sl} {dd : List D} (hsl : sl = posS n ++ dd.map .dfl) (hd : ∀ r H, RDs Y r H dd (kws.map (·.2)))
    (h : ∀ (D : Addr) (doc pm : Value) (an : Option Addr) (cdv ct : Value) (us ks : List Value), us.length = n → ks.length = kws.length →
      KwChain D ((kws.map (·.1)).zip ks) (bindArgs (PySem.W.fnOf x qual params body scope .none (.ref D) doc pm an cdv ct) ⟨us, []⟩) (ps.zip (us ++ ks))) : BindOk Y fd ps n [] sl := by
  obtain ⟨ds, r1, hb⟩ := FunD.binds0 F n hk hn h
  exact bind_tail r1 hb (by rw [List.length_map]; exact hn) hsl hd
/-- positional defaults behind the first j stand in -/
theorem bind_df (F : FunD Y.K x qual params body scope dvs kws f fd) (j : Nat) (hk : dvs ≠ []) (hn : n + (dvs.length - j) = ps.length) {sl : List Sl} {dd : List D} (hsl : sl = posS n ++ dd.map .dfl) (hd : ∀ r H, RDs Y r H dd (dvs.drop j))
    (h : ∀ (T : Addr) (kV doc pm : Value) (an : Option Addr) (cdv ct : Value) (us its : List Value), us.length = n → its.length = dvs.length →
      ∃ k, bindArgs (PySem.W.fnOf x qual params body scope (.ref T) kV doc pm an cdv ct) ⟨us, []⟩ = seqItems? (.ref T) >>= k ∧ k (some its.toArray) = pure (ps.zip (us ++ its.drop j))) : BindOk Y fd ps n [] sl := by
  obtain ⟨ds, r1, hb⟩ := FunD.binds1 F n j hk hn h
  exact bind_tail r1 hb (by rw [List.length_drop]; exact hn) hsl hd
end
theorem bind_of {Y : Sy} {T : Tab} {p : Prg} {f : Nat} {fd : FuncData} {ps : List Str} {l : List (Nat × Nat × List Str × List Sl)} (hp : p.shs = T.shs.map (·.2.2.2)) (hl : (T.shs.filter fun q => Nat.beq q.1 f) = l) (h : ∀ q ∈ l, BindOk Y fd ps q.2.1 q.2.2.1 q.2.2.2) :
    ∀ (sh n : Nat) (kn : List Str) (sl : List Sl), T.shs[sh]? = some (f, n, kn, sl) → p.shs[sh]? = some sl ∧ BindOk Y fd ps n kn sl := fun sh n kn sl e => by
  refine ⟨by rw [hp, List.getElem?_map, e]; rfl, h (f, n, kn, sl) ?_⟩
  rw [← hl, List.mem_filter]
  exact ⟨List.mem_of_getElem? e, Nat.beq_refl f⟩
/-! ### the law's end -/
theorem only_frz {K : PySem.W.Frag} {H : Hp} {a : Addr} {xs : List V} (hO : Only H) (hK : ∀ o, K.lookup a = some o → o.cls ≠ .type "list") (hS : SqL K H a xs) : ∃ o, H a = some (.frz o (.lst xs)) := by
  rcases hS with (h | h) | ⟨o, its, n, h, hc, _⟩
  · rcases hO a with e | ⟨o, ys, e⟩
    · rw [h] at e; cases e
    · rw [h] at e; cases e
  · exact h
  · exact absurd hc (hK o h)
theorem look_mem2 {β : Type} {x : Str} {d : β} : ∀ {l : List (Str × β)}, l.lookup x = some d → (x, d) ∈ l
  | [], hx => nomatch hx
  | (y, e) :: r, hx => by
    have z : (match x == y with | true => some e | false => List.lookup x r) = some d := hx
    cases hq : x == y with
    | true =>
      rw [hq] at z
      cases Option.some.inj z
      rw [beq_iff_eq.mp hq]
      exact List.mem_cons_self ..
    | false =>
      rw [hq] at z
      exact List.mem_cons_of_mem _ (look_mem2 z)
/-- the law's def lets nothing out -/
theorem law_ok {P : Program} {w : World} {K : PySem.W.Frag} {mg : Str → Option Value} {base : Heap} {T : Tab} {p : Prg} (F : PrF ⟨P, w, K, mg⟩ T p) (k f : Nat) (d : Df) (a : Addr) (fd : FuncData) (G : FnF ⟨P, w, K, mg⟩ T p f d a fd) :
    FnOk P w K mg base CX0 (2 * (k + 1)) a fd d.ps (fun vs H Q _ => spF ⟨P, w, K, mg⟩ (evAt p (k + 1)) f vs H Q fun _ _ _ => False) := by
  obtain ⟨fn, f1, f2, f3, f4⟩ := G.fn
  have eqn : ∀ ds h, (evAt p (k + 1)).call f ds h = if Nat.beq ds.length fn.np then endS h.length (exSs (evAt p k) fn.body (initL fn.nn ds) h) else .bad := fun ds h => by
    show run p (k + 1) f ds h = _
    simp only [run, f1]
  show FnOk P w K mg base CX0 ((2 * k + 1) + 1) a fd d.ps _
  refine FunD.ok G.df G.sc (fun vs H Q E ⟨r, ds, h, _, hd, q⟩ => ?_) fun cdv A outer s H vs Q E hr ⟨r, ds, h, R, hd, q⟩ => ?_
  · rw [eqn] at q
    split at q
    · rename_i hl
      rw [hd.length, ← f2]
      exact Nat.eq_of_beq_eq_true hl
    · exact q.elim
  · rw [eqn] at q
    split at q
    · have ok : OkS T (evAt p k) k (cxOf CX0 P w K mg base d.N d.qual d.scope a cdv A outer s H E) (fun _ _ _ _ => False) := {
        toOk := ok_of F rfl (fun f d a fd G' => fn_ok F k f d a fd G') rfl (fun u s' ⟨_, _, _, _, _, _, _, _, _, _, _, _, _, _, _, _, w⟩ => w.elim) hr G.sc.nd
        hp := passes_of rfl
        fn := fun _ => rfl
        kind := G.sc.kind
        stk := rfl
        frm := rfl }
      exact ⟨_, snSs T (evAt p k) fn.body ok f4, r, _, h, init_rel hd f3, R, end_post R q⟩
    · exact q.elim
theorem rds_int {Y : Sy} {r : Rg} {H : Hp} : ∀ ns : List Int, RDs Y r H (ns.map .int) (ns.map V.int)
  | [] => RDs.nil
  | i :: is => RDs.cons RD.int' (rds_int is)
/-- the law's promise, by the evaluator's answer -/
theorem sp_law {Y : Sy} {c : Chk} {gn : List Str} {fn : List DefE} {p : Prg} {k f : Nat} {H : Hp} {a : Addr} {ns : List Int} (s : SaysX c gn fn Y.K) (hO : Only H) (hS : SqL Y.K H a (ns.map V.int)) (ev : run p k f [.lst (ns.map .int)] [] = .ok (.bl true) []) :
    spF Y (evAt p k) f [.ref a] H (fun v _ => v = .bl true) fun _ _ _ => False := by
  obtain ⟨o, ho⟩ := only_frz hO (fun o e => s.noLst e) hS
  refine ⟨⟨[], []⟩, [.lst (ns.map .int)], [], ⟨rfl, List.nodup_nil, fun a m => absurd m List.not_mem_nil, fun n ob b h1 h2 => by simp at h1⟩, RDs.cons ?_ RDs.nil, ?_⟩
  · simp only [RD]
    exact ⟨a, _, rfl, ⟨.inr ⟨o, ho⟩, fun m => m.elim List.not_mem_nil List.not_mem_nil⟩, rds_int ns⟩
  · show Post Y (RD Y) _ H _ (run p k f [.lst (ns.map .int)] []) _
    rw [ev]
    exact fun r' H' b e R hb => hb.bl_inv
end EV

set_option Elab.async false
set_option linter.all false
set_option maxRecDepth 100000
/-! the program's code. -/
namespace PF
open PySem EV
/-- scenes.is_value: 0 thing -/
def b0 : Ss := (.cons (.ret (.and (.blt .isi (.cons (.var 0) (.cons (.tyv "int") .nil))) (.not (.blt .isi (.cons (.var 0) (.cons (.tyv "bool") .nil))))))
    .nil)
/-- scenes.is_number: 0 thing 1 many -/
def b1 : Ss := (.cons (.ret (.and (.call 0 0 (.cons (.var 0) .nil) .nil) (.chain .LtE .Lt (.cint 0) (.var 0) (.var 1))))
    .nil)
/-- scenes.are_contents: 0 thing 1 width 2 one -/
def b2 : Ss := (.cons (.ife (.or (.not (.blt .isi (.cons (.var 0) (.cons (.tyv "tuple") .nil)))) (.cmp .NotEq (.blt .len (.cons (.var 0) .nil)) (.var 1))) (.cons (.ret (.cbl false))
    .nil) .nil)
    (.cons (.ret (.blt .all (.cons (.lc false [2] (.name 2) (.of (.var 0)) .nil (.or (.cmp .Is (.var 2) .cnon) (.call 0 0 (.cons (.var 2) .nil) .nil))) .nil)))
    .nil))
/-- scenes.is_order: 0 order 1 contents 2 telling 3 at 4 one -/
def b3 : Ss := (.cons (.ife (.or (.not (.blt .isi (.cons (.var 0) (.cons (.tyv "tuple") .nil)))) (.not (.blt .all (.cons (.lc false [4] (.name 4) (.of (.var 0)) .nil (.call 1 1 (.cons (.var 4) (.cons (.blt .len (.cons (.var 1) .nil)) .nil)) .nil)) .nil)))) (.cons (.ret (.cbl false))
    .nil) .nil)
    (.cons (.asg (.name 2) (.lc false [3, 4] (.tup [3, 4]) (.enum (.var 1)) (.cons (.cmp .IsNot (.var 4) .cnon) .nil) (.var 3)))
    (.cons (.ret (.cmp .Eq (.blt .sorted (.cons (.lc false [4] (.name 4) (.of (.var 0)) .nil (.blt .int (.cons (.var 4) .nil))) .nil)) (.var 2)))
    .nil)))
/-- scenes.is_scene: 0 scene 1 width 2 many -/
def b4 : Ss := (.cons (.ife (.or (.not (.blt .isi (.cons (.var 0) (.cons (.tyv "tuple") .nil)))) (.or (.cmp .NotEq (.blt .len (.cons (.var 0) .nil)) (.cint 2)) (.not (.blt .isi (.cons (.sub (.var 0) (.cint 0)) (.cons (.tyv "tuple") .nil)))))) (.cons (.ret (.cbl false))
    .nil) .nil)
    (.cons (.asg (.name 2) (.blt .len (.cons (.sub (.var 0) (.cint 0)) .nil)))
    (.cons (.ret (.and (.chain .LtE .LtE (.var 1) (.var 2) (.glo 0)) (.and (.cmp .Gt (.var 2) (.cint 0)) (.and (.call 2 3 (.cons (.sub (.var 0) (.cint 0)) (.cons (.var 2) .nil)) .nil) (.call 3 2 (.cons (.sub (.var 0) (.cint 1)) (.cons (.sub (.var 0) (.cint 0)) .nil)) .nil)))))
    .nil)))
def b5_1 : Ss := (.cons (.asg (.name 2) (.bin .Add (.var 2) (.cint 1)))
    .nil)
/-- scenes.next_name: 0 known 1 used 2 name -/
def b5 : Ss := (.cons (.asg (.name 2) (.cint 0))
    (.cons (.whl (.or (.cmp .In (.var 2) (.var 0)) (.cmp .In (.var 2) (.var 1))) b5_1)
    (.cons (.ret (.var 2))
    .nil)))
def b6_1 : Ss := (.cons (.ife (.and (.cmp .IsNot (.var 2) .cnon) (.cmp .NotIn (.var 2) (.var 3))) (.cons (.asg (.name 5) (.var 2))
    (.cons (.ife (.cmp .NotIn (.var 2) (.var 0)) (.cons (.asg (.name 5) (.call 5 4 (.cons (.var 0) (.cons (.var 4) .nil)) .nil))
    (.cons (.expr (.met (.var 4) .append (.cons (.var 5) .nil)))
    .nil)) .nil)
    (.cons (.sset (.var 3) (.var 2) (.var 5))
    .nil))) .nil)
    .nil)
/-- scenes.names_of: 0 known 1 values 2 one 3 names 4 used 5 name -/
def b6 : Ss := (.cons (.par [3, 4] (.cons .dnew (.cons (.lst true .nil) .nil)))
    (.cons (.for (.name 2) (.of (.var 1)) b6_1)
    (.cons (.ret (.var 3))
    .nil)))
/-- scenes.renamed: 0 names 1 values 2 one -/
def b7 : Ss := (.cons (.ret (.blt .tuple (.cons (.lc false [2] (.name 2) (.of (.var 1)) .nil (.ife (.cmp .Is (.var 2) .cnon) .cnon (.sub (.var 0) (.var 2)))) .nil)))
    .nil)
def b8_1 : Ss := (.cons (.expr (.met (.var 4) .append (.cons (.tup (.cons (.var 5) (.star (.var 7) .nil))) .nil)))
    .nil)
def b8_2 : Ss := (.cons (.asg (.name 6) (.ife (.cmp .Eq (.var 5) (.var 3)) (.lst false (.star (.var 2) (.cons (.var 3) .nil))) (.var 2)))
    (.cons (.for (.name 7) (.of (.call 8 5 (.cons (.bin .Sub (.var 0) (.cint 1)) (.cons (.var 1) (.cons (.var 6) .nil))) .nil)) b8_1)
    .nil))
/-- scenes.contents_from: 0 width 1 known 2 used 3 fresh 4 found 5 one 6 more 7 rest 8 some -/
def b8 : Ss := (.cons (.ife (.cmp .Eq (.var 0) (.cint 0)) (.cons (.ret (.lst false (.cons (.tup .nil) .nil)))
    .nil) .nil)
    (.cons (.asg (.name 3) (.call 5 4 (.cons (.var 1) (.cons (.var 2) .nil)) .nil))
    (.cons (.asg (.name 4) (.lc true [7] (.name 7) (.of (.call 8 5 (.cons (.bin .Sub (.var 0) (.cint 1)) (.cons (.var 1) (.cons (.var 2) .nil))) .nil)) .nil (.tup (.cons .cnon (.star (.var 7) .nil)))))
    (.cons (.for (.name 5) (.of (.blt .sorted (.cons (.lc false [8] (.name 8) (.of (.lst false (.star (.var 1) (.star (.var 2) (.cons (.var 3) .nil))))) .nil (.blt .int (.cons (.var 8) .nil))) .nil))) b8_2)
    (.cons (.ret (.var 4))
    .nil)))))
def b9_1 : Ss := (.cons (.expr (.met (.var 1) .append (.cons (.tup (.cons (.var 3) (.star (.var 4) .nil))) .nil)))
    .nil)
def b9_2 : Ss := (.cons (.for (.name 4) (.of (.call 9 6 (.cons (.bin .Add (.slc (.var 0) .no (.var 2)) (.slc (.var 0) (.bin .Add (.var 2) (.cint 1)) .no)) .nil) .nil)) b9_1)
    .nil)
/-- scenes.orders_of: 0 sources 1 found 2 at 3 one 4 rest -/
def b9 : Ss := (.cons (.ife (.not (.var 0)) (.cons (.ret (.lst false (.cons (.tup .nil) .nil)))
    .nil) .nil)
    (.cons (.asg (.name 1) (.lst true .nil))
    (.cons (.for (.tup [2, 3]) (.enum (.var 0)) b9_2)
    (.cons (.ret (.var 1))
    .nil))))
/-- scenes.telling: 0 contents 1 at 2 one -/
def b10 : Ss := (.cons (.ret (.blt .tuple (.cons (.lc false [1, 2] (.tup [1, 2]) (.enum (.var 0)) (.cons (.cmp .IsNot (.var 2) .cnon) .nil) (.var 1)) .nil)))
    .nil)
def b11_1 : Ss := (.cons (.asg (.name 6) (.call 10 7 (.cons (.var 5) .nil) .nil))
    (.cons (.ife (.cmp .Eq (.blt .len (.cons (.var 6) .nil)) (.var 4)) (.cons (.expr (.met (.var 3) .extend (.cons (.lc false [7] (.name 7) (.of (.call 9 6 (.cons (.var 6) .nil) .nil)) .nil (.tup (.cons (.var 5) (.cons (.var 7) .nil)))) .nil)))
    .nil) .nil)
    .nil))
def b11_2 : Ss := (.cons (.for (.name 5) (.of (.var 2)) b11_1)
    .nil)
/-- scenes.scenes_of: 0 width 1 known 2 every 3 found 4 many 5 contents 6 sources 7 order -/
def b11 : Ss := (.cons (.asg (.name 2) (.call 8 5 (.cons (.var 0) (.cons (.var 1) (.cons (.lst false .nil) .nil))) .nil))
    (.cons (.asg (.name 3) (.lst true .nil))
    (.cons (.for (.name 4) (.rng (.cons (.bin .Add (.var 0) (.cint 1)) .nil)) b11_2)
    (.cons (.ret (.var 3))
    .nil))))
/-- scenes.is_known: 0 known 1 one 2 other -/
def b12 : Ss := (.cons (.ife (.or (.not (.blt .isi (.cons (.var 0) (.cons (.tyv "tuple") .nil)))) (.or (.cmp .Gt (.blt .len (.cons (.var 0) .nil)) (.cint 9)) (.not (.blt .all (.cons (.lc false [1] (.name 1) (.of (.var 0)) .nil (.call 0 0 (.cons (.var 1) .nil) .nil)) .nil))))) (.cons (.ret (.cbl false))
    .nil) .nil)
    (.cons (.ret (.blt .all (.cons (.lc false [1, 2] (.tup [1, 2]) (.zip (.var 0) (.slc (.var 0) (.cint 1) .no)) .nil (.cmp .Lt (.var 1) (.var 2))) .nil)))
    .nil))
/-- scenes.scenes: 0 width 1 known -/
def b13 : Ss := (.cons (.ife (.or (.not (.call 0 0 (.cons (.var 0) .nil) .nil)) (.not (.chain .LtE .LtE (.cint 1) (.var 0) (.glo 0)))) (.cons (.raise 1)
    .nil) .nil)
    (.cons (.ife (.not (.call 12 9 (.cons (.var 1) .nil) .nil)) (.cons (.raise 2)
    .nil) .nil)
    (.cons (.ret (.call 11 8 (.cons (.var 0) (.cons (.var 1) .nil)) .nil))
    .nil)))
/-- scenes.bare_scene: 0 scene 1 known -/
def b14 : Ss := (.cons (.ife (.not (.call 4 12 (.cons (.var 0) (.cons (.cint 1) .nil)) .nil)) (.cons (.raise 3)
    .nil) .nil)
    (.cons (.ife (.not (.call 12 9 (.cons (.var 1) .nil) .nil)) (.cons (.raise 2)
    .nil) .nil)
    (.cons (.ret (.tup (.cons (.call 7 10 (.cons (.call 6 11 (.cons (.var 1) (.cons (.sub (.var 0) (.cint 0)) .nil)) .nil) (.cons (.sub (.var 0) (.cint 0)) .nil)) .nil) (.cons (.sub (.var 0) (.cint 1)) .nil))))
    .nil)))
/-- ladders.leaves_of: 0 form -/
def b15 : Ss := (.cons (.ife (.cmp .In (.sub (.var 0) (.cint 0)) (.glo 2)) (.cons (.ret (.lst false (.star (.call 15 13 (.cons (.sub (.var 0) (.cint 1)) .nil) .nil) (.star (.call 15 13 (.cons (.sub (.var 0) (.cint 2)) .nil) .nil) .nil))))
    .nil) .nil)
    (.cons (.ret (.lst false (.cons (.var 0) .nil)))
    .nil))
/-- ladders.is_form: 0 form 1 deep -/
def b16 : Ss := (.cons (.ife (.or (.not (.blt .isi (.cons (.var 0) (.cons (.tyv "tuple") .nil)))) (.or (.cmp .Gt (.var 1) (.glo 1)) (.or (.not (.var 0)) (.not (.blt .isi (.cons (.sub (.var 0) (.cint 0)) (.cons (.tyv "str") .nil))))))) (.cons (.ret (.cbl false))
    .nil) .nil)
    (.cons (.ife (.cmp .Eq (.sub (.var 0) (.cint 0)) (.cstr "source")) (.cons (.ret (.and (.cmp .Eq (.blt .len (.cons (.var 0) .nil)) (.cint 2)) (.call 1 1 (.cons (.sub (.var 0) (.cint 1)) (.cons (.glo 0) .nil)) .nil)))
    .nil) .nil)
    (.cons (.ife (.cmp .Eq (.sub (.var 0) (.cint 0)) (.cstr "fixed")) (.cons (.ret (.and (.cmp .Eq (.blt .len (.cons (.var 0) .nil)) (.cint 2)) (.call 0 0 (.cons (.sub (.var 0) (.cint 1)) .nil) .nil)))
    .nil) .nil)
    (.cons (.ife (.or (.cmp .NotIn (.sub (.var 0) (.cint 0)) (.glo 2)) (.cmp .NotEq (.blt .len (.cons (.var 0) .nil)) (.cint 3))) (.cons (.ret (.cbl false))
    .nil) .nil)
    (.cons (.ret (.and (.call 16 14 (.cons (.sub (.var 0) (.cint 1)) (.cons (.bin .Add (.var 1) (.cint 1)) .nil)) .nil) (.call 16 14 (.cons (.sub (.var 0) (.cint 2)) (.cons (.bin .Add (.var 1) (.cint 1)) .nil)) .nil)))
    .nil)))))
/-- ladders.tells: 0 form 1 contents 2 order 3 at 4 word 5 left 6 right; HOLES: call order.index -/
def b17 : Ss := (.cons (.ife (.cmp .Eq (.sub (.var 0) (.cint 0)) (.cstr "source")) (.cons (.asg (.name 3) (.sub (.var 0) (.cint 1)))
    (.cons (.ret (.ife (.cmp .Is (.sub (.var 1) (.var 3)) .cnon) .cnon (.tup (.cons (.sub (.var 1) (.var 3)) (.cons (.var 3) (.cons .bad .nil))))))
    .nil)) .nil)
    (.cons (.ife (.cmp .Eq (.sub (.var 0) (.cint 0)) (.cstr "fixed")) (.cons (.ret (.tup (.cons (.sub (.var 0) (.cint 1)) (.cons .cnon (.cons (.neg (.cint 1)) .nil)))))
    .nil) .nil)
    (.cons (.par [4, 5, 6] (.cons (.sub (.var 0) (.cint 0)) (.cons (.call 17 15 (.cons (.sub (.var 0) (.cint 1)) (.cons (.var 1) (.cons (.var 2) .nil))) .nil) (.cons (.call 17 15 (.cons (.sub (.var 0) (.cint 2)) (.cons (.var 1) (.cons (.var 2) .nil))) .nil) .nil))))
    (.cons (.ife (.cmp .Eq (.var 4) (.cstr "first")) (.cons (.ret (.ife (.cmp .Is (.var 5) .cnon) (.var 6) (.var 5)))
    .nil) .nil)
    (.cons (.ife (.or (.cmp .Is (.var 5) .cnon) (.cmp .Is (.var 6) .cnon)) (.cons (.ife (.cmp .Eq (.var 4) (.cstr "both")) (.cons (.ret .cnon)
    .nil) .nil)
    (.cons (.ret (.ife (.or (.cmp .Eq (.var 4) (.cstr "except")) (.cmp .Is (.var 6) .cnon)) (.var 5) (.var 6)))
    .nil)) .nil)
    (.cons (.ife (.cmp .Eq (.var 4) (.cstr "alone")) (.cons (.ret .cnon)
    .nil) .nil)
    (.cons (.ife (.cmp .Eq (.var 4) (.cstr "except")) (.cons (.ret (.ife (.cmp .Eq (.sub (.var 5) (.cint 0)) (.sub (.var 6) (.cint 0))) .cnon (.var 5)))
    .nil) .nil)
    (.cons (.ife (.and (.cmp .Eq (.var 4) (.cstr "both")) (.cmp .NotEq (.sub (.var 5) (.cint 0)) (.sub (.var 6) (.cint 0)))) (.cons (.ret .cnon)
    .nil) .nil)
    (.cons (.ret (.ife (.cmp .Gt (.sub (.var 6) (.cint 2)) (.sub (.var 5) (.cint 2))) (.var 6) (.var 5)))
    .nil)))))))))
/-- ladders.value_of: 0 form 1 contents 2 order 3 found -/
def b18 : Ss := (.cons (.asg (.name 3) (.call 17 15 (.cons (.var 0) (.cons (.var 1) (.cons (.var 2) .nil))) .nil))
    (.cons (.ret (.ife (.cmp .Is (.var 3) .cnon) .cnon (.sub (.var 3) (.cint 0))))
    .nil))
def b19_1 : Ss := (.cons (.ife (.cmp .Eq (.sub (.var 2) (.cint 0)) (.cstr "source")) (.cons (.asg (.name 1) (.blt .max (.cons (.bin .Add (.blt .int (.cons (.sub (.var 2) (.cint 1)) .nil)) (.cint 1)) (.cons (.var 1) .nil))))
    .nil) .nil)
    .nil)
/-- ladders.width_of: 0 form 1 widest 2 leaf -/
def b19 : Ss := (.cons (.asg (.name 1) (.cint 1))
    (.cons (.for (.name 2) (.of (.call 15 13 (.cons (.var 0) .nil) .nil)) b19_1)
    (.cons (.ret (.var 1))
    .nil)))
/-- ladders.known_of: 0 forms 1 found 2 form 3 leaf 4 one -/
def b20 : Ss := (.cons (.asg (.name 1) (.lc2 false [2, 3] [3] (.name 2) (.of (.var 0)) .nil (.name 3) (.of (.call 15 13 (.cons (.var 2) .nil) .nil)) (.cons (.cmp .Eq (.sub (.var 3) (.cint 0)) (.cstr "fixed")) .nil) (.sub (.var 3) (.cint 1))))
    (.cons (.ret (.blt .tuple (.cons (.srt (.lc false [4] (.name 4) (.of (.var 1)) .nil (.blt .int (.cons (.var 4) .nil)))) .nil)))
    .nil))
/-- ladders.joint: 0 one 1 other -/
def b21 : Ss := (.cons (.ret (.call 11 8 (.cons (.blt .max (.cons (.blt .int (.cons (.call 19 17 (.cons (.var 0) .nil) .nil) .nil)) (.cons (.blt .int (.cons (.call 19 17 (.cons (.var 1) .nil) .nil) .nil)) .nil))) (.cons (.call 20 16 (.cons (.lst false (.cons (.var 0) (.cons (.var 1) .nil))) .nil) .nil) .nil)) .nil))
    .nil)
def b22_1 : Ss := (.cons (.asg (.name 4) (.call 18 19 (.cons (.var 0) (.cons (.var 2) (.cons (.var 3) .nil))) .nil))
    (.cons (.ife (.and (.cmp .IsNot (.var 4) .cnon) (.cmp .NotEq (.var 4) (.call 18 19 (.cons (.var 1) (.cons (.var 2) (.cons (.var 3) .nil))) .nil))) (.cons (.ret (.cbl false))
    .nil) .nil)
    .nil))
/-- ladders.is_within: 0 one 1 other 2 contents 3 order 4 value -/
def b22 : Ss := (.cons (.for (.tup [2, 3]) (.of (.call 21 18 (.cons (.var 0) (.cons (.var 1) .nil)) .nil)) b22_1)
    (.cons (.ret (.cbl true))
    .nil))
/-- ladders.form_of: 0 thing -/
def b23 : Ss := (.cons (.ife (.isO (.var 0) 18) (.cons (.ret (.att (.var 0) "form"))
    .nil) .nil)
    (.cons (.ife (.call 0 0 (.cons (.var 0) .nil) .nil) (.cons (.ret (.tup (.cons (.cstr "fixed") (.cons (.var 0) .nil))))
    .nil) .nil)
    (.cons (.raise 4)
    .nil)))
/-- plans.is_width: 0 thing -/
def b24 : Ss := (.cons (.ret (.and (.call 1 1 (.cons (.var 0) (.cons (.bin .Add (.glo 0) (.cint 1)) .nil)) .nil) (.cmp .Gt (.var 0) (.cint 0))))
    .nil)
/-- plans.are_ladders: 0 thing 1 width 2 one -/
def b25 : Ss := (.cons (.ife (.or (.not (.blt .isi (.cons (.var 0) (.cons (.tyv "tuple") .nil)))) (.not (.chain .LtE .LtE (.cint 1) (.blt .len (.cons (.var 0) .nil)) (.cint 3)))) (.cons (.ret (.cbl false))
    .nil) .nil)
    (.cons (.ret (.blt .all (.cons (.lc false [2] (.name 2) (.of (.var 0)) .nil (.and (.isO (.var 2) 18) (.cmp .LtE (.att (.var 2) "width") (.var 1)))) .nil)))
    .nil))
/-- plans.are_rules: 0 thing 1 many 2 one -/
def b26 : Ss := (.cons (.ife (.or (.not (.blt .isi (.cons (.var 0) (.cons (.tyv "tuple") .nil)))) (.cmp .NotEq (.blt .len (.cons (.var 0) .nil)) (.var 1))) (.cons (.ret (.cbl false))
    .nil) .nil)
    (.cons (.ret (.blt .all (.cons (.lc false [2] (.name 2) (.of (.var 0)) .nil (.and (.blt .isi (.cons (.var 2) (.cons (.tyv "str") .nil))) (.cmp .In (.var 2) (.glo 3)))) .nil)))
    .nil))
def b27_1 : Ss := (.cons (.ife (.or (.not (.blt .isi (.cons (.var 3) (.cons (.tyv "tuple") .nil)))) (.not (.blt .all (.cons (.lc false [4] (.name 4) (.of (.var 3)) .nil (.call 1 1 (.cons (.var 4) (.cons (.var 2) .nil)) .nil)) .nil)))) (.cons (.ret (.cbl false))
    .nil) .nil)
    (.cons (.ife (.not (.blt .all (.cons (.lc false [4, 5] (.tup [4, 5]) (.zip (.var 3) (.slc (.var 3) (.cint 1) .no)) .nil (.cmp .Lt (.var 4) (.var 5))) .nil))) (.cons (.ret (.cbl false))
    .nil) .nil)
    .nil))
/-- plans.is_under: 0 thing 1 many 2 field 3 some 4 one 5 other -/
def b27 : Ss := (.cons (.ife (.or (.not (.blt .isi (.cons (.var 0) (.cons (.tyv "tuple") .nil)))) (.cmp .NotEq (.blt .len (.cons (.var 0) .nil)) (.var 1))) (.cons (.ret (.cbl false))
    .nil) .nil)
    (.cons (.for (.tup [2, 3]) (.enum (.var 0)) b27_1)
    (.cons (.ret (.cbl true))
    .nil)))
/-- plans.check_plan: 0 plan; HOLES: raise BadPlan(None) -/
def b28 : Ss := (.cons (.ife (.not (.isO (.var 0) 19)) (.cons .never
    .nil) .nil)
    .nil)
/-- plans.check_field: 0 plan 1 field -/
def b29 : Ss := (.cons (.ife (.not (.call 1 1 (.cons (.var 1) (.cons (.olen (.var 0)) .nil)) .nil)) (.cons (.raise 7)
    .nil) .nil)
    .nil)
/-- plans.told_values: 0 plan 1 contents 2 order 3 one -/
def b30 : Ss := (.cons (.ret (.lc false [3] (.name 3) (.of (.att (.var 0) "ladders")) .nil (.call 18 19 (.cons (.att (.var 3) "form") (.cons (.var 1) (.cons (.var 2) .nil))) .nil)))
    .nil)
/-- plans.is_state: 0 plan 1 state 2 values 3 rows 4 contents 5 order 6 edits 7 asked 8 one 9 other 10 rule 11 edit 12 value; HOLES: call zip -/
def b31 : Ss := (.cons (.ife (.or (.not (.blt .isi (.cons (.var 1) (.cons (.tyv "tuple") .nil)))) (.cmp .NotEq (.blt .len (.cons (.var 1) .nil)) (.cint 4))) (.cons (.ret (.cbl false))
    .nil) .nil)
    (.cons (.asg (.tup [4, 5, 6, 7]) (.var 1))
    (.cons (.ife (.or (.not (.call 2 3 (.cons (.var 4) (.cons (.att (.var 0) "sources") .nil)) .nil)) (.not (.call 3 2 (.cons (.var 5) (.cons (.var 4) .nil)) .nil))) (.cons (.ret (.cbl false))
    .nil) .nil)
    (.cons (.ife (.or (.not (.call 2 3 (.cons (.var 6) (.cons (.olen (.var 0)) .nil)) .nil)) (.not (.blt .isi (.cons (.var 7) (.cons (.tyv "tuple") .nil))))) (.cons (.ret (.cbl false))
    .nil) .nil)
    (.cons (.ife (.not (.blt .all (.cons (.lc false [8] (.name 8) (.of (.var 7)) .nil (.call 1 1 (.cons (.var 8) (.cons (.olen (.var 0)) .nil)) .nil)) .nil))) (.cons (.ret (.cbl false))
    .nil) .nil)
    (.cons (.ife (.not (.blt .all (.cons (.lc false [8, 9] (.tup [8, 9]) (.zip (.var 7) (.slc (.var 7) (.cint 1) .no)) .nil (.cmp .Lt (.var 8) (.var 9))) .nil))) (.cons (.ret (.cbl false))
    .nil) .nil)
    (.cons (.ife (.not (.blt .all (.cons (.lc false [8] (.name 8) (.of (.var 7)) .nil (.and (.cmp .Eq (.sub (.att (.var 0) "rules") (.var 8)) (.cstr "ask")) (.cmp .IsNot (.sub (.var 6) (.var 8)) .cnon))) .nil))) (.cons (.ret (.cbl false))
    .nil) .nil)
    (.cons (.asg (.name 2) (.call 30 20 (.cons (.var 0) (.cons (.var 4) (.cons (.var 5) .nil))) .nil))
    (.cons (.asg (.name 3) (.blt .list (.cons .bad .nil)))
    (.cons (.ret (.not (.blt .any (.cons (.lc false [10, 11, 12] (.tup [10, 11, 12]) (.of (.var 3)) .nil (.and (.cmp .Eq (.var 10) (.cstr "melt")) (.and (.cmp .IsNot (.var 11) .cnon) (.cmp .Eq (.var 11) (.var 12))))) .nil))))
    .nil))))))))))
/-- plans.check_state: 0 plan 1 state -/
def b32 : Ss := (.cons (.expr (.call 28 22 (.cons (.var 0) .nil) .nil))
    (.cons (.ife (.not (.call 31 21 (.cons (.var 0) (.cons (.var 1) .nil)) .nil)) (.cons (.raise 6)
    .nil) .nil)
    .nil))
/-- plans.start: 0 plan -/
def b33 : Ss := (.cons (.expr (.call 28 22 (.cons (.var 0) .nil) .nil))
    (.cons (.ret (.tup (.cons (.bin .Mult (.tup (.cons .cnon .nil)) (.att (.var 0) "sources")) (.cons (.tup .nil) (.cons (.bin .Mult (.tup (.cons .cnon .nil)) (.olen (.var 0))) (.cons (.tup .nil) .nil))))))
    .nil))
/-- plans.shown_of: 0 plan 1 state 2 values 3 edit 4 value -/
def b34 : Ss := (.cons (.asg (.name 2) (.call 30 20 (.cons (.var 0) (.cons (.sub (.var 1) (.cint 0)) (.cons (.sub (.var 1) (.cint 1)) .nil))) .nil))
    (.cons (.ret (.blt .tuple (.cons (.lc false [3, 4] (.tup [3, 4]) (.zip (.sub (.var 1) (.cint 2)) (.var 2)) .nil (.ife (.cmp .Is (.var 3) .cnon) (.var 4) (.var 3))) .nil)))
    .nil))
/-- plans.shown: 0 plan 1 state -/
def b35 : Ss := (.cons (.expr (.call 32 24 (.cons (.var 0) (.cons (.var 1) .nil)) .nil))
    (.cons (.ret (.call 34 23 (.cons (.var 0) (.cons (.var 1) .nil)) .nil))
    .nil))
def b36_1 : Ss := (.cons (.asg (.name 5) (.call 17 15 (.cons (.att (.var 3) "form") (.cons (.sub (.var 1) (.cint 0)) (.cons (.sub (.var 1) (.cint 1)) .nil))) .nil))
    (.cons (.ife (.cmp .IsNot (.var 4) .cnon) (.cons (.expr (.met (.var 2) .append (.cons (.cstr "edit") .nil)))
    .nil) (.cons (.ife (.cmp .Is (.var 5) .cnon) (.cons (.expr (.met (.var 2) .append (.cons .cnon .nil)))
    .nil) (.cons (.expr (.met (.var 2) .append (.cons (.ife (.cmp .Is (.sub (.var 5) (.cint 1)) .cnon) (.cstr "fixed") (.sub (.var 5) (.cint 1))) .nil)))
    .nil))
    .nil))
    .nil))
/-- plans.origins: 0 plan 1 state 2 found 3 ladder 4 edit 5 pair -/
def b36 : Ss := (.cons (.expr (.call 32 24 (.cons (.var 0) (.cons (.var 1) .nil)) .nil))
    (.cons (.asg (.name 2) (.lst true .nil))
    (.cons (.for (.tup [3, 4]) (.zip (.att (.var 0) "ladders") (.sub (.var 1) (.cint 2))) b36_1)
    (.cons (.ret (.blt .tuple (.cons (.var 2) .nil)))
    .nil))))
/-- plans.bare_of: 0 known 1 state 2 names 3 contents 4 order 5 edits 6 asked -/
def b37 : Ss := (.cons (.asg (.tup [3, 4, 5, 6]) (.var 1))
    (.cons (.asg (.name 2) (.call 6 11 (.cons (.var 0) (.cons (.lst false (.star (.var 3) (.star (.var 5) .nil))) .nil)) .nil))
    (.cons (.ret (.tup (.cons (.call 7 10 (.cons (.var 2) (.cons (.var 3) .nil)) .nil) (.cons (.var 4) (.cons (.call 7 10 (.cons (.var 2) (.cons (.var 5) .nil)) .nil) (.cons (.var 6) .nil))))))
    .nil)))
/-- plans.bare: 0 plan 1 state -/
def b38 : Ss := (.cons (.expr (.call 32 24 (.cons (.var 0) (.cons (.var 1) .nil)) .nil))
    (.cons (.ret (.call 37 25 (.cons (.att (.var 0) "known") (.cons (.var 1) .nil)) .nil))
    .nil))
/-- deeds.is_deed: 0 plan 1 state 2 deed -/
def b39 : Ss := (.cons (.ife (.or (.not (.blt .isi (.cons (.var 2) (.cons (.tyv "tuple") .nil)))) (.or (.cmp .NotIn (.blt .len (.cons (.var 2) .nil)) (.tup (.cons (.cint 2) (.cons (.cint 3) .nil)))) (.not (.blt .isi (.cons (.sub (.var 2) (.cint 0)) (.cons (.tyv "str") .nil)))))) (.cons (.ret (.cbl false))
    .nil) .nil)
    (.cons (.ife (.and (.cmp .Eq (.sub (.var 2) (.cint 0)) (.cstr "tell")) (.cmp .Eq (.blt .len (.cons (.var 2) .nil)) (.cint 3))) (.cons (.ret (.and (.call 1 1 (.cons (.sub (.var 2) (.cint 1)) (.cons (.att (.var 0) "sources") .nil)) .nil) (.or (.cmp .Is (.sub (.var 2) (.cint 2)) .cnon) (.call 0 0 (.cons (.sub (.var 2) (.cint 2)) .nil) .nil))))
    .nil) .nil)
    (.cons (.ife (.and (.cmp .Eq (.sub (.var 2) (.cint 0)) (.cstr "edit")) (.cmp .Eq (.blt .len (.cons (.var 2) .nil)) (.cint 3))) (.cons (.ret (.and (.call 1 1 (.cons (.sub (.var 2) (.cint 1)) (.cons (.olen (.var 0)) .nil)) .nil) (.call 0 0 (.cons (.sub (.var 2) (.cint 2)) .nil) .nil)))
    .nil) .nil)
    (.cons (.ife (.and (.cmp .Eq (.sub (.var 2) (.cint 0)) (.cstr "reset")) (.cmp .Eq (.blt .len (.cons (.var 2) .nil)) (.cint 2))) (.cons (.ret (.call 1 1 (.cons (.sub (.var 2) (.cint 1)) (.cons (.olen (.var 0)) .nil)) .nil))
    .nil) .nil)
    (.cons (.ret (.and (.cmp .In (.sub (.var 2) (.cint 0)) (.tup (.cons (.cstr "hold") (.cons (.cstr "take") .nil)))) (.and (.cmp .Eq (.blt .len (.cons (.var 2) .nil)) (.cint 2)) (.and (.call 1 1 (.cons (.sub (.var 2) (.cint 1)) (.cons (.olen (.var 0)) .nil)) .nil) (.cmp .In (.sub (.var 2) (.cint 1)) (.sub (.var 1) (.cint 3)))))))
    .nil)))))
/-- deeds.scene_after: 0 state 1 deed 2 rest 3 contents 4 order 5 at 6 value 7 one -/
def b40 : Ss := (.cons (.par [3, 4] (.cons (.sub (.var 0) (.cint 0)) (.cons (.sub (.var 0) (.cint 1)) .nil)))
    (.cons (.ife (.or (.cmp .NotEq (.sub (.var 1) (.cint 0)) (.cstr "tell")) (.cmp .Eq (.sub (.var 3) (.sub (.var 1) (.cint 1))) (.sub (.var 1) (.cint 2)))) (.cons (.ret (.tup (.cons (.var 3) (.cons (.var 4) .nil))))
    .nil) .nil)
    (.cons (.asg (.tup [5, 6]) (.tup (.cons (.sub (.var 1) (.cint 1)) (.cons (.sub (.var 1) (.cint 2)) .nil))))
    (.cons (.asg (.name 2) (.blt .tuple (.cons (.lc false [7] (.name 7) (.of (.var 4)) (.cons (.cmp .NotEq (.var 7) (.var 5)) .nil) (.var 7)) .nil)))
    (.cons (.ret (.tup (.cons (.tup (.star (.slc (.var 3) .no (.var 5)) (.cons (.var 6) (.star (.slc (.var 3) (.bin .Add (.var 5) (.cint 1)) .no) .nil)))) (.cons (.ife (.cmp .Is (.var 6) .cnon) (.var 2) (.tup (.star (.var 2) (.cons (.var 5) .nil)))) .nil))))
    .nil)))))
/-- deeds.own_edit: 0 deed 1 edit -/
def b41 : Ss := (.cons (.ife (.cmp .Eq (.sub (.var 0) (.cint 0)) (.cstr "edit")) (.cons (.ret (.sub (.var 0) (.cint 2)))
    .nil) .nil)
    (.cons (.ret (.ife (.cmp .Eq (.sub (.var 0) (.cint 0)) (.cstr "hold")) (.var 1) .cnon))
    .nil))
def b42_1 : Ss := (.cons (.par [13, 14] (.cons (.sub (.sub (.var 1) (.cint 2)) (.var 11)) (.cons (.cmp .In (.var 11) (.sub (.var 1) (.cint 3))) .nil)))
    (.cons (.ife (.and (.cmp .In (.sub (.var 2) (.cint 0)) (.glo 4)) (.cmp .Eq (.sub (.var 2) (.cint 1)) (.var 11))) (.cons (.par [13, 14] (.cons (.call 41 26 (.cons (.var 2) (.cons (.var 13) .nil)) .nil) (.cons (.cbl false) .nil)))
    .nil) (.cons (.ife (.blt .any (.cons (.lc false [15] (.name 15) (.of (.sub (.att (.var 0) "under") (.var 11))) .nil (.cmp .NotEq (.sub (.var 7) (.var 15)) (.sub (.var 10) (.var 15)))) .nil)) (.cons (.par [13, 14] (.cons .cnon (.cons (.cbl false) .nil)))
    .nil) (.cons (.ife (.and (.cmp .IsNot (.var 13) .cnon) (.cmp .NotEq (.sub (.var 5) (.var 11)) (.sub (.var 6) (.var 11)))) (.cons (.par [13, 14] (.cons (.ife (.cmp .Eq (.var 12) (.cstr "drop")) .cnon (.var 13)) (.cons (.or (.var 14) (.cmp .Eq (.var 12) (.cstr "ask"))) .nil)))
    .nil) .nil)
    .nil))
    .nil))
    (.cons (.ife (.and (.cmp .Eq (.var 12) (.cstr "melt")) (.cmp .Eq (.var 13) (.sub (.var 6) (.var 11)))) (.cons (.asg (.name 13) .cnon)
    .nil) .nil)
    (.cons (.expr (.met (.var 8) .append (.cons (.var 13) .nil)))
    (.cons (.expr (.met (.var 10) .append (.cons (.ife (.cmp .Is (.var 13) .cnon) (.sub (.var 6) (.var 11)) (.var 13)) .nil)))
    (.cons (.ife (.var 14) (.cons (.expr (.met (.var 9) .append (.cons (.var 11) .nil)))
    .nil) .nil)
    .nil))))))
/-- deeds.after_deed: 0 plan 1 state 2 deed 3 contents 4 order 5 old 6 fresh 7 before 8 edits 9 asked 10 seen 11 field 12 rule 13 edit 14 mark 15 one -/
def b42 : Ss := (.cons (.asg (.tup [3, 4]) (.call 40 27 (.cons (.var 1) (.cons (.var 2) .nil)) .nil))
    (.cons (.par [5, 6] (.cons (.call 30 20 (.cons (.var 0) (.cons (.sub (.var 1) (.cint 0)) (.cons (.sub (.var 1) (.cint 1)) .nil))) .nil) (.cons (.call 30 20 (.cons (.var 0) (.cons (.var 3) (.cons (.var 4) .nil))) .nil) .nil)))
    (.cons (.asg (.tup [7, 8, 9, 10]) (.tup (.cons (.call 34 23 (.cons (.var 0) (.cons (.var 1) .nil)) .nil) (.cons (.lst false .nil) (.cons (.lst false .nil) (.cons (.lst false .nil) .nil))))))
    (.cons (.for (.tup [11, 12]) (.enum (.att (.var 0) "rules")) b42_1)
    (.cons (.ret (.tup (.cons (.var 3) (.cons (.var 4) (.cons (.blt .tuple (.cons (.var 8) .nil)) (.cons (.blt .tuple (.cons (.var 9) .nil)) .nil))))))
    .nil)))))
/-- deeds.after: 0 plan 1 state 2 deed -/
def b43 : Ss := (.cons (.expr (.call 32 24 (.cons (.var 0) (.cons (.var 1) .nil)) .nil))
    (.cons (.ife (.not (.call 39 29 (.cons (.var 0) (.cons (.var 1) (.cons (.var 2) .nil))) .nil)) (.cons (.raise 8)
    .nil) .nil)
    (.cons (.ret (.call 42 28 (.cons (.var 0) (.cons (.var 1) (.cons (.var 2) .nil))) .nil))
    .nil)))
def b44_1 : Ss := (.cons (.ife (.and (.cmp .IsNot (.var 3) .cnon) (.cmp .NotIn (.var 3) (.var 2))) (.cons (.expr (.met (.var 2) .append (.cons (.var 3) .nil)))
    .nil) .nil)
    .nil)
/-- deeds.menu_of: 0 known 1 values 2 found 3 one -/
def b44 : Ss := (.cons (.asg (.name 2) (.blt .listM (.cons (.var 0) .nil)))
    (.cons (.for (.name 3) (.of (.var 1)) b44_1)
    (.cons (.ret (.lst false (.star (.var 2) (.cons (.call 5 4 (.cons (.var 2) (.cons (.lst false .nil) .nil)) .nil) .nil))))
    .nil)))
-- 45 deeds.deeds_of: not put into code (yield or lambda or def)
/-- deeds.deeds: 0 plan 1 state 2 menu -/
def b46 : Ss := (.cons (.expr (.call 32 24 (.cons (.var 0) (.cons (.var 1) .nil)) .nil))
    (.cons (.asg (.name 2) (.call 44 31 (.cons (.att (.var 0) "known") (.cons (.lst false (.star (.sub (.var 1) (.cint 0)) (.star (.sub (.var 1) (.cint 2)) .nil))) .nil)) .nil))
    (.cons (.ret (.blt .list (.cons (.call 45 30 (.cons (.att (.var 0) "sources") (.cons (.olen (.var 0)) (.cons (.sub (.var 1) (.cint 3)) (.cons (.var 2) .nil)))) .nil) .nil)))
    .nil)))
def b47_1 : Ss := (.cons (.ife (.not (.call 39 29 (.cons (.var 0) (.cons (.sub (.var 3) (.neg (.cint 1))) (.cons (.var 4) .nil))) .nil)) (.cons (.ret .cnon)
    .nil) .nil)
    (.cons (.expr (.met (.var 3) .append (.cons (.call 42 28 (.cons (.var 0) (.cons (.sub (.var 3) (.neg (.cint 1))) (.cons (.var 4) .nil))) .nil) .nil)))
    .nil))
/-- deeds.played: 0 plan 1 state 2 run 3 found 4 deed -/
def b47 : Ss := (.cons (.asg (.name 3) (.lst true (.cons (.var 1) .nil)))
    (.cons (.for (.name 4) (.of (.var 2)) b47_1)
    (.cons (.ret (.var 3))
    .nil)))
/-- deeds.after_run: 0 plan 1 state 2 run 3 found -/
def b48 : Ss := (.cons (.expr (.call 32 24 (.cons (.var 0) (.cons (.var 1) .nil)) .nil))
    (.cons (.ife (.not (.blt .isi (.cons (.var 2) (.cons (.tyv "list") .nil)))) (.cons (.raise 8)
    .nil) .nil)
    (.cons (.asg (.name 3) (.call 47 32 (.cons (.var 0) (.cons (.var 1) (.cons (.var 2) .nil))) .nil))
    (.cons (.ife (.cmp .Is (.var 3) .cnon) (.cons (.raise 8)
    .nil) .nil)
    (.cons (.ret (.sub (.var 3) (.neg (.cint 1))))
    .nil)))))
def b49_1 : Ss := (.cons (.ife (.and (.cmp .IsNot (.var 3) .cnon) (.and (.cmp .NotIn (.var 3) (.var 0)) (.cmp .NotIn (.var 3) (.var 6)))) (.cons (.sset (.var 5) (.call 5 4 (.cons (.var 0) (.cons (.lst false (.star (.var 5) .nil)) .nil)) .nil) (.var 3))
    (.cons (.expr (.met (.var 6) .append (.cons (.var 3) .nil)))
    .nil)) .nil)
    .nil)
/-- deeds.lifted: 0 known 1 values 2 deed 3 one 4 fresh 5 names 6 used -/
def b49 : Ss := (.cons (.ife (.or (.cmp .NotIn (.sub (.var 2) (.cint 0)) (.tup (.cons (.cstr "tell") (.cons (.cstr "edit") .nil)))) (.or (.cmp .Is (.sub (.var 2) (.cint 2)) .cnon) (.cmp .In (.sub (.var 2) (.cint 2)) (.var 0)))) (.cons (.ret (.var 2))
    .nil) .nil)
    (.cons (.par [5, 6] (.cons .dnew (.cons (.lst true .nil) .nil)))
    (.cons (.for (.name 3) (.of (.var 1)) b49_1)
    (.cons (.asg (.name 4) (.call 5 4 (.cons (.lst false (.star (.var 0) (.star (.var 6) .nil))) (.cons (.lst false .nil) .nil)) .nil))
    (.cons (.ret (.tup (.cons (.sub (.var 2) (.cint 0)) (.cons (.sub (.var 2) (.cint 1)) (.cons (.met (.var 5) .get (.cons (.sub (.var 2) (.cint 2)) (.cons (.var 4) .nil))) .nil)))))
    .nil)))))
/-- keeping.ledger_after: 0 plan 1 field 2 ledger 3 deed 4 later 5 state 6 owed -/
def b50 : Ss := (.cons (.asg (.tup [5, 6]) (.var 2))
    (.cons (.asg (.name 4) (.call 42 28 (.cons (.var 0) (.cons (.var 5) (.cons (.var 3) .nil))) .nil))
    (.cons (.ife (.and (.cmp .In (.sub (.var 3) (.cint 0)) (.glo 4)) (.and (.cmp .NotEq (.sub (.var 3) (.cint 0)) (.cstr "hold")) (.cmp .Eq (.sub (.var 3) (.cint 1)) (.var 1)))) (.cons (.ret (.tup (.cons (.var 4) (.cons (.cmp .Eq (.sub (.var 3) (.cint 0)) (.cstr "edit")) .nil))))
    .nil) .nil)
    (.cons (.ife (.and (.var 6) (.cmp .NotEq (.sub (.call 34 23 (.cons (.var 0) (.cons (.var 4) .nil)) .nil) (.var 1)) (.sub (.call 34 23 (.cons (.var 0) (.cons (.var 5) .nil)) .nil) (.var 1)))) (.cons (.ret .cnon)
    .nil) .nil)
    (.cons (.ret (.tup (.cons (.var 4) (.cons (.var 6) .nil))))
    .nil)))))
/-- keeping.deeds_at: 0 plan 1 known 2 state -/
def b51 : Ss := (.cons (.ret (.blt .list (.cons (.call 45 30 (.cons (.att (.var 0) "sources") (.cons (.olen (.var 0)) (.cons (.sub (.var 2) (.cint 3)) (.cons (.call 44 31 (.cons (.var 1) (.cons (.lst false (.star (.sub (.var 2) (.cint 0)) (.star (.sub (.var 2) (.cint 2)) .nil))) .nil)) .nil) .nil)))) .nil) .nil)))
    .nil)
def b52_1 : Ss := (.cons (.asg (.name 10) (.call 50 34 (.cons (.var 0) (.cons (.var 1) (.cons (.var 8) (.cons (.var 9) .nil)))) .nil))
    (.cons (.ife (.cmp .Is (.var 10) .cnon) (.cons (.asg (.name 6) (.ife (.cmp .Is (.var 6) .cnon) (.tup (.cons (.var 8) (.cons (.var 9) .nil))) (.var 6)))
    (.cons .cont
    .nil)) .nil)
    (.cons (.asg (.name 11) (.tup (.cons (.call 37 25 (.cons (.var 2) (.cons (.sub (.var 10) (.cint 0)) .nil)) .nil) (.cons (.sub (.var 10) (.cint 1)) .nil))))
    (.cons (.ife (.cmp .NotIn (.var 11) (.var 4)) (.cons (.ife (.cmp .Eq (.blt .len (.cons (.var 4) .nil)) (.glo 5)) (.cons (.raise 9)
    .nil) .nil)
    (.cons (.sset (.var 4) (.var 11) (.tup (.cons (.var 8) (.cons (.var 9) .nil))))
    (.cons (.expr (.met (.var 5) .append (.cons (.var 11) .nil)))
    .nil))) .nil)
    .nil))))
def b52_2 : Ss := (.cons (.asg (.name 8) (.sub (.var 5) (.var 7)))
    (.cons (.aug .Add 7 (.cint 1))
    (.cons (.for (.name 9) (.of (.call 51 33 (.cons (.var 0) (.cons (.var 2) (.cons (.sub (.var 8) (.cint 0)) .nil))) .nil)) b52_1)
    .nil)))
/-- keeping.explored: 0 plan 1 field 2 known 3 begin 4 roads 5 queue 6 lost 7 at 8 ledger 9 deed 10 later 11 bare; HOLES: Dict {begin: None} -/
def b52 : Ss := (.cons (.par [2, 3] (.cons (.att (.var 0) "known") (.cons (.tup (.cons (.call 33 35 (.cons (.var 0) .nil) .nil) (.cons (.cbl false) .nil))) .nil)))
    (.cons (.asg (.tup [4, 5, 6, 7]) (.tup (.cons .bad (.cons (.lst false (.cons (.var 3) .nil)) (.cons .cnon (.cons (.cint 0) .nil))))))
    (.cons (.whl (.cmp .Lt (.var 7) (.blt .len (.cons (.var 5) .nil))) b52_2)
    (.cons (.ret (.tup (.cons (.var 4) (.cons (.var 6) .nil))))
    .nil))))
def b53_1 : Ss := (.cons (.asg (.tup [1, 4]) (.sub (.var 0) (.var 1)))
    (.cons (.expr (.met (.var 3) .append (.cons (.var 4) .nil)))
    .nil))
/-- keeping.path_of: 0 roads 1 spot 2 last 3 found 4 deed; HOLES: slice step -/
def b53 : Ss := (.cons (.asg (.name 3) (.lst true (.cons (.var 2) .nil)))
    (.cons (.whl (.cmp .IsNot (.sub (.var 0) (.var 1)) .cnon) b53_1)
    (.cons (.ret .bad)
    .nil)))
def b54_1 : Ss := (.cons (.expr (.met (.var 5) .append (.cons (.call 49 36 (.cons (.var 3) (.cons (.lst false (.star (.sub (.var 4) (.cint 0)) (.star (.sub (.var 4) (.cint 2)) .nil))) (.cons (.var 2) .nil))) .nil) .nil)))
    (.cons (.asg (.name 4) (.call 42 28 (.cons (.var 0) (.cons (.var 4) (.cons (.sub (.var 5) (.neg (.cint 1))) .nil))) .nil))
    .nil))
/-- keeping.run_along: 0 plan 1 path 2 deed 3 known 4 state 5 run -/
def b54 : Ss := (.cons (.par [3, 4, 5] (.cons (.att (.var 0) "known") (.cons (.call 33 35 (.cons (.var 0) .nil) .nil) (.cons (.lst true .nil) .nil))))
    (.cons (.for (.name 2) (.of (.var 1)) b54_1)
    (.cons (.ret (.var 5))
    .nil)))
/-- keeping.keeps: 0 plan 1 field 2 roads 3 lost -/
def b55 : Ss := (.cons (.expr (.call 28 22 (.cons (.var 0) .nil) .nil))
    (.cons (.expr (.call 29 42 (.cons (.var 0) (.cons (.var 1) .nil)) .nil))
    (.cons (.asg (.tup [2, 3]) (.call 52 41 (.cons (.var 0) (.cons (.var 1) .nil)) .nil))
    (.cons (.ife (.cmp .Is (.var 3) .cnon) (.cons (.ret (.new 20 40 (.cons (.lst false (.star (.var 2) .nil)) .nil) .nil))
    .nil) .nil)
    (.cons (.ret (.new 21 37 (.cons (.call 54 38 (.cons (.var 0) (.cons (.call 53 39 (.cons (.var 2) (.cons (.sub (.var 3) (.cint 0)) (.cons (.sub (.var 3) (.cint 1)) .nil))) .nil) .nil)) .nil) .nil) .nil))
    .nil)))))
/-- keeping.soonest: 0 plan 1 field 2 roads 3 lost -/
def b56 : Ss := (.cons (.expr (.call 28 22 (.cons (.var 0) .nil) .nil))
    (.cons (.expr (.call 29 42 (.cons (.var 0) (.cons (.var 1) .nil)) .nil))
    (.cons (.asg (.tup [2, 3]) (.call 52 41 (.cons (.var 0) (.cons (.var 1) .nil)) .nil))
    (.cons (.ret (.ife (.cmp .Is (.var 3) .cnon) .cnon (.blt .len (.cons (.call 53 39 (.cons (.var 2) (.cons (.sub (.var 3) (.cint 0)) (.cons (.sub (.var 3) (.cint 1)) .nil))) .nil) .nil))))
    .nil))))
/-- alike.check_two: 0 one 1 other; HOLES: raise BadPlan('LADDERS'); raise BadPlan('SOURCES') -/
def b57 : Ss := (.cons (.expr (.call 28 22 (.cons (.var 0) .nil) .nil))
    (.cons (.expr (.call 28 22 (.cons (.var 1) .nil) .nil))
    (.cons (.ife (.cmp .NotEq (.att (.var 0) "sources") (.att (.var 1) "sources")) (.cons .never
    .nil) .nil)
    (.cons (.ife (.cmp .NotEq (.olen (.var 0)) (.olen (.var 1))) (.cons .never
    .nil) .nil)
    .nil))))
/-- alike.known_to: 0 one 1 other 2 ladder -/
def b58 : Ss := (.cons (.ret (.call 20 16 (.cons (.lc false [2] (.name 2) (.of (.lst false (.star (.att (.var 0) "ladders") (.star (.att (.var 1) "ladders") .nil)))) .nil (.att (.var 2) "form")) .nil) .nil))
    .nil)
/-- alike.values_in: 0 pair -/
def b59 : Ss := (.cons (.ret (.lst false (.star (.sub (.sub (.var 0) (.cint 0)) (.cint 0)) (.star (.sub (.sub (.var 0) (.cint 0)) (.cint 2)) (.star (.sub (.sub (.var 0) (.cint 1)) (.cint 2)) .nil)))))
    .nil)
def b60_1 : Ss := (.cons (.expr (.met (.var 3) .append (.cons (.tup (.cons (.call 7 10 (.cons (.var 2) (.cons (.var 4) .nil)) .nil) (.cons (.var 5) (.cons (.call 7 10 (.cons (.var 2) (.cons (.var 6) .nil)) .nil) (.cons (.var 7) .nil))))) .nil)))
    .nil)
/-- alike.bare_pair: 0 known 1 pair 2 names 3 found 4 contents 5 order 6 edits 7 asked -/
def b60 : Ss := (.cons (.par [2, 3] (.cons (.call 6 11 (.cons (.var 0) (.cons (.call 59 43 (.cons (.var 1) .nil) .nil) .nil)) .nil) (.cons (.lst true .nil) .nil)))
    (.cons (.for (.tup [4, 5, 6, 7]) (.of (.var 1)) b60_1)
    (.cons (.ret (.blt .tuple (.cons (.var 3) .nil)))
    .nil)))
/-- alike.pair_deeds: 0 one 1 known 2 pair -/
def b61 : Ss := (.cons (.ret (.blt .list (.cons (.call 45 30 (.cons (.att (.var 0) "sources") (.cons (.olen (.var 0)) (.cons (.sub (.sub (.var 2) (.cint 0)) (.cint 3)) (.cons (.call 44 31 (.cons (.var 1) (.cons (.call 59 43 (.cons (.var 2) .nil) .nil) .nil)) .nil) .nil)))) .nil) .nil)))
    .nil)
/-- alike.looks_alike: 0 one 1 other 2 pair -/
def b62 : Ss := (.cons (.ret (.and (.cmp .Eq (.call 34 23 (.cons (.var 0) (.cons (.sub (.var 2) (.cint 0)) .nil)) .nil) (.call 34 23 (.cons (.var 1) (.cons (.sub (.var 2) (.cint 1)) .nil)) .nil)) (.cmp .Eq (.sub (.sub (.var 2) (.cint 0)) (.cint 3)) (.sub (.sub (.var 2) (.cint 1)) (.cint 3)))))
    .nil)
def b63_1 : Ss := (.cons (.asg (.name 10) (.call 60 45 (.cons (.var 2) (.cons (.tup (.cons (.call 42 28 (.cons (.var 0) (.cons (.sub (.var 8) (.cint 0)) (.cons (.var 9) .nil))) .nil) (.cons (.call 42 28 (.cons (.var 1) (.cons (.sub (.var 8) (.cint 1)) (.cons (.var 9) .nil))) .nil) .nil))) .nil)) .nil))
    (.cons (.ife (.cmp .NotIn (.var 10) (.var 4)) (.cons (.ife (.cmp .Eq (.blt .len (.cons (.var 4) .nil)) (.glo 6)) (.cons (.raise 9)
    .nil) .nil)
    (.cons (.sset (.var 4) (.var 10) (.tup (.cons (.var 8) (.cons (.var 9) .nil))))
    (.cons (.expr (.met (.var 5) .append (.cons (.var 10) .nil)))
    .nil))) .nil)
    .nil))
def b63_2 : Ss := (.cons (.asg (.name 8) (.sub (.var 5) (.var 7)))
    (.cons (.aug .Add 7 (.cint 1))
    (.cons (.ife (.not (.call 62 46 (.cons (.var 0) (.cons (.var 1) (.cons (.var 8) .nil))) .nil)) (.cons (.asg (.name 6) (.ife (.cmp .Is (.var 6) .cnon) (.var 8) (.var 6)))
    (.cons .cont
    .nil)) .nil)
    (.cons (.for (.name 9) (.of (.call 61 44 (.cons (.var 0) (.cons (.var 2) (.cons (.var 8) .nil))) .nil)) b63_1)
    .nil))))
/-- alike.explored: 0 one 1 other 2 known 3 begin 4 roads 5 queue 6 parted 7 at 8 pair 9 deed 10 bare; HOLES: Dict {begin: None} -/
def b63 : Ss := (.cons (.par [2, 3] (.cons (.call 58 47 (.cons (.var 0) (.cons (.var 1) .nil)) .nil) (.cons (.tup (.cons (.call 33 35 (.cons (.var 0) .nil) .nil) (.cons (.call 33 35 (.cons (.var 1) .nil) .nil) .nil))) .nil)))
    (.cons (.asg (.tup [4, 5, 6, 7]) (.tup (.cons .bad (.cons (.lst false (.cons (.var 3) .nil)) (.cons .cnon (.cons (.cint 0) .nil))))))
    (.cons (.whl (.cmp .Lt (.var 7) (.blt .len (.cons (.var 5) .nil))) b63_2)
    (.cons (.ret (.tup (.cons (.var 4) (.cons (.var 6) .nil))))
    .nil))))
def b64_1 : Ss := (.cons (.asg (.tup [1, 3]) (.sub (.var 0) (.var 1)))
    (.cons (.expr (.met (.var 2) .append (.cons (.var 3) .nil)))
    .nil))
/-- alike.path_to: 0 roads 1 spot 2 found 3 deed; HOLES: slice step -/
def b64 : Ss := (.cons (.asg (.name 2) (.lst true .nil))
    (.cons (.whl (.cmp .IsNot (.sub (.var 0) (.var 1)) .cnon) b64_1)
    (.cons (.ret .bad)
    .nil)))
def b65_1 : Ss := (.cons (.expr (.met (.var 6) .append (.cons (.call 49 36 (.cons (.var 4) (.cons (.call 59 43 (.cons (.var 5) .nil) .nil) (.cons (.var 3) .nil))) .nil) .nil)))
    (.cons (.asg (.name 5) (.tup (.cons (.call 42 28 (.cons (.var 0) (.cons (.sub (.var 5) (.cint 0)) (.cons (.sub (.var 6) (.neg (.cint 1))) .nil))) .nil) (.cons (.call 42 28 (.cons (.var 1) (.cons (.sub (.var 5) (.cint 1)) (.cons (.sub (.var 6) (.neg (.cint 1))) .nil))) .nil) .nil))))
    .nil))
/-- alike.run_along: 0 one 1 other 2 path 3 deed 4 known 5 pair 6 run -/
def b65 : Ss := (.cons (.par [4, 5, 6] (.cons (.call 58 47 (.cons (.var 0) (.cons (.var 1) .nil)) .nil) (.cons (.tup (.cons (.call 33 35 (.cons (.var 0) .nil) .nil) (.cons (.call 33 35 (.cons (.var 1) .nil) .nil) .nil))) (.cons (.lst true .nil) .nil))))
    (.cons (.for (.name 3) (.of (.var 2)) b65_1)
    (.cons (.ret (.var 6))
    .nil)))
/-- alike.same: 0 one 1 other 2 roads 3 parted -/
def b66 : Ss := (.cons (.expr (.call 57 53 (.cons (.var 0) (.cons (.var 1) .nil)) .nil))
    (.cons (.asg (.tup [2, 3]) (.call 63 52 (.cons (.var 0) (.cons (.var 1) .nil)) .nil))
    (.cons (.ife (.cmp .Is (.var 3) .cnon) (.cons (.ret (.new 22 51 (.cons (.lst false (.star (.var 2) .nil)) .nil) .nil))
    .nil) .nil)
    (.cons (.ret (.new 23 48 (.cons (.call 65 49 (.cons (.var 0) (.cons (.var 1) (.cons (.call 64 50 (.cons (.var 2) (.cons (.var 3) .nil)) .nil) .nil))) .nil) .nil) .nil))
    .nil))))
/-- alike.parting_length: 0 one 1 other 2 roads 3 parted -/
def b67 : Ss := (.cons (.expr (.call 57 53 (.cons (.var 0) (.cons (.var 1) .nil)) .nil))
    (.cons (.asg (.tup [2, 3]) (.call 63 52 (.cons (.var 0) (.cons (.var 1) .nil)) .nil))
    (.cons (.ret (.ife (.cmp .Is (.var 3) .cnon) .cnon (.blt .len (.cons (.call 64 50 (.cons (.var 2) (.cons (.var 3) .nil)) .nil) .nil))))
    .nil)))
/-- weighing.own_scenes: 0 form -/
def b68 : Ss := (.cons (.ret (.call 11 8 (.cons (.call 19 17 (.cons (.var 0) .nil) .nil) (.cons (.call 20 16 (.cons (.lst false (.cons (.var 0) .nil)) .nil) .nil) .nil)) .nil))
    .nil)
/-- weighing.check_ladder: 0 ladder -/
def b69 : Ss := (.cons (.ife (.not (.isO (.var 0) 18)) (.cons (.raise 4)
    .nil) .nil)
    .nil)
/-- weighing.told: 0 ladder 1 scene 2 found -/
def b70 : Ss := (.cons (.expr (.call 69 54 (.cons (.var 0) .nil) .nil))
    (.cons (.ife (.not (.call 4 12 (.cons (.var 1) (.cons (.att (.var 0) "width") .nil)) .nil)) (.cons (.raise 3)
    .nil) .nil)
    (.cons (.asg (.name 2) (.call 17 15 (.cons (.att (.var 0) "form") (.cons (.sub (.var 1) (.cint 0)) (.cons (.sub (.var 1) (.cint 1)) .nil))) .nil))
    (.cons (.ret (.ife (.cmp .Is (.var 2) .cnon) .cnon (.slc (.var 2) .no (.cint 2))))
    .nil))))
def b71_1 : Ss := (.cons (.ife (.cmp .NotEq (.call 18 19 (.cons (.att (.var 0) "form") (.cons (.var 2) (.cons (.var 3) .nil))) .nil) (.call 18 19 (.cons (.att (.var 1) "form") (.cons (.var 2) (.cons (.var 3) .nil))) .nil)) (.cons (.ret (.tup (.cons (.var 2) (.cons (.var 3) .nil))))
    .nil) .nil)
    .nil)
/-- weighing.apart: 0 one 1 other 2 contents 3 order -/
def b71 : Ss := (.cons (.expr (.call 69 54 (.cons (.var 0) .nil) .nil))
    (.cons (.expr (.call 69 54 (.cons (.var 1) .nil) .nil))
    (.cons (.for (.tup [2, 3]) (.of (.call 21 18 (.cons (.att (.var 0) "form") (.cons (.att (.var 1) "form") .nil)) .nil)) b71_1)
    (.cons (.ret .cnon)
    .nil))))
def b72_1 : Ss := (.cons (.asg (.name 3) (.call 17 15 (.cons (.att (.var 0) "form") (.cons (.sub (.var 2) (.cint 0)) (.cons (.sub (.var 2) (.cint 1)) .nil))) .nil))
    (.cons (.ife (.and (.cmp .IsNot (.var 3) .cnon) (.cmp .NotIn (.sub (.var 3) (.cint 1)) (.var 1))) (.cons (.sset (.var 1) (.sub (.var 3) (.cint 1)) (.var 2))
    .nil) .nil)
    .nil))
/-- weighing.counting: 0 ladder 1 met 2 scene 3 found 4 source; HOLES: DictComp {source: met[source] for source in [*range(WIDEST), None] if -/
def b72 : Ss := (.cons (.expr (.call 69 54 (.cons (.var 0) .nil) .nil))
    (.cons (.asg (.name 1) .dnew)
    (.cons (.for (.name 2) (.of (.call 68 55 (.cons (.att (.var 0) "form") .nil) .nil)) b72_1)
    (.cons (.ret .bad)
    .nil))))
def b73_1 : Ss := (.cons (.ife (.and (.cmp .Gt (.var 4) (.var 2)) (.cmp .NotEq (.call 18 19 (.cons (.att (.var 0) "form") (.cons (.var 1) (.cons (.var 4) .nil))) .nil) (.var 3))) (.cons (.ret (.tup (.cons (.var 1) (.cons (.var 2) (.cons (.var 4) .nil)))))
    .nil) .nil)
    .nil)
def b73_2 : Ss := (.cons (.asg (.name 3) (.call 18 19 (.cons (.att (.var 0) "form") (.cons (.var 1) (.cons (.var 2) .nil))) .nil))
    (.cons (.for (.name 4) (.of (.call 9 6 (.cons (.call 10 7 (.cons (.var 1) .nil) .nil) .nil) .nil)) b73_1)
    .nil))
/-- weighing.unsteady: 0 ladder 1 contents 2 order 3 value 4 other -/
def b73 : Ss := (.cons (.expr (.call 69 54 (.cons (.var 0) .nil) .nil))
    (.cons (.for (.tup [1, 2]) (.of (.call 68 55 (.cons (.att (.var 0) "form") .nil) .nil)) b73_2)
    (.cons (.ret .cnon)
    .nil)))
/-- weighing.hushed: 0 scene 1 kept 2 contents 3 at 4 one -/
def b74 : Ss := (.cons (.asg (.name 2) (.blt .tuple (.cons (.lc false [3, 4] (.tup [3, 4]) (.enum (.sub (.var 0) (.cint 0))) .nil (.ife (.cmp .In (.var 3) (.var 1)) (.var 4) .cnon)) .nil)))
    (.cons (.ret (.tup (.cons (.var 2) (.cons (.blt .tuple (.cons (.lc false [3] (.name 3) (.of (.sub (.var 0) (.cint 1))) (.cons (.cmp .In (.var 3) (.var 1)) .nil) (.var 3)) .nil)) .nil))))
    .nil))
/-- weighing.only: 0 ladder 1 scene 2 kept 3 contents 4 order -/
def b75 : Ss := (.cons (.expr (.call 69 54 (.cons (.var 0) .nil) .nil))
    (.cons (.ife (.not (.call 4 12 (.cons (.var 1) (.cons (.att (.var 0) "width") .nil)) .nil)) (.cons (.raise 3)
    .nil) .nil)
    (.cons (.ife (.not (.call 76 57 (.cons (.var 2) (.cons (.glo 0) .nil)) .nil)) (.cons (.raise 1)
    .nil) .nil)
    (.cons (.asg (.tup [3, 4]) (.call 74 56 (.cons (.var 1) (.cons (.var 2) .nil)) .nil))
    (.cons (.ret (.call 18 19 (.cons (.att (.var 0) "form") (.cons (.var 3) (.cons (.var 4) .nil))) .nil))
    .nil)))))
/-- weighing.is_choice: 0 kept 1 width 2 one 3 other -/
def b76 : Ss := (.cons (.ife (.or (.not (.blt .isi (.cons (.var 0) (.cons (.tyv "tuple") .nil)))) (.not (.blt .all (.cons (.lc false [2] (.name 2) (.of (.var 0)) .nil (.call 1 1 (.cons (.var 2) (.cons (.var 1) .nil)) .nil)) .nil)))) (.cons (.ret (.cbl false))
    .nil) .nil)
    (.cons (.ret (.blt .all (.cons (.lc false [2, 3] (.tup [2, 3]) (.zip (.var 0) (.slc (.var 0) (.cint 1) .no)) .nil (.cmp .Lt (.var 2) (.var 3))) .nil)))
    .nil))
def b77_1 : Ss := (.cons (.expr (.met (.var 3) .extend (.cons (.call 78 58 (.cons (.lc false [5] (.name 5) (.of (.var 1)) (.cons (.cmp .Eq (.blt .len (.cons (.var 5) .nil)) (.var 4)) .nil) (.var 5)) .nil) .nil) .nil)))
    .nil)
def b77_2 : Ss := (.cons (.asg (.name 1) (.bin .Add (.var 1) (.lc false [5] (.name 5) (.of (.var 1)) .nil (.tup (.star (.var 5) (.cons (.var 2) .nil))))))
    .nil)
/-- weighing.choices_of: 0 width 1 found 2 one 3 rows 4 many 5 some -/
def b77 : Ss := (.cons (.asg (.name 1) (.lst false (.cons (.tup .nil) .nil)))
    (.cons (.for (.name 2) (.rng (.cons (.var 0) .nil)) b77_2)
    (.cons (.asg (.name 3) (.lst true .nil))
    (.cons (.for (.name 4) (.rng (.cons (.bin .Add (.var 0) (.cint 1)) .nil)) b77_1)
    (.cons (.ret (.var 3))
    .nil)))))
def b78_1 : Ss := (.cons (.asg (.name 3) (.blt .len (.cons (.lc false [4] (.name 4) (.of (.var 1)) (.cons (.cmp .Lt (.var 4) (.var 2)) .nil) (.var 4)) .nil)))
    (.cons (.expr .bad)
    .nil))
/-- weighing.placed: 0 rows 1 found 2 row 3 at 4 one; HOLES: call found.insert -/
def b78 : Ss := (.cons (.asg (.name 1) (.lst true .nil))
    (.cons (.for (.name 2) (.of (.var 0)) b78_1)
    (.cons (.ret (.var 1))
    .nil)))
def b79_1 : Ss := (.cons (.asg (.tup [3, 4]) (.call 74 56 (.cons (.var 2) (.cons (.var 1) .nil)) .nil))
    (.cons (.ife (.cmp .NotEq (.call 18 19 (.cons (.var 0) (.cons (.var 3) (.cons (.var 4) .nil))) .nil) (.call 18 19 (.cons (.var 0) (.cons (.sub (.var 2) (.cint 0)) (.cons (.sub (.var 2) (.cint 1)) .nil))) .nil)) (.cons (.ret (.var 2))
    .nil) .nil)
    .nil))
/-- weighing.parting: 0 form 1 kept 2 scene 3 contents 4 order -/
def b79 : Ss := (.cons (.for (.name 2) (.of (.call 68 55 (.cons (.var 0) .nil) .nil)) b79_1)
    (.cons (.ret .cnon)
    .nil))
/-- weighing.parts_it: 0 form 1 scene 2 kept 3 contents 4 order -/
def b80 : Ss := (.cons (.asg (.tup [3, 4]) (.call 74 56 (.cons (.var 1) (.cons (.var 2) .nil)) .nil))
    (.cons (.ret (.cmp .NotEq (.call 18 19 (.cons (.var 0) (.cons (.var 3) (.cons (.var 4) .nil))) .nil) (.call 18 19 (.cons (.var 0) (.cons (.sub (.var 1) (.cint 0)) (.cons (.sub (.var 1) (.cint 1)) .nil))) .nil)))
    .nil))
def b81_1 : Ss := (.cons (.asg (.name 3) (.call 79 61 (.cons (.att (.var 0) "form") (.cons (.var 2) .nil)) .nil))
    (.cons (.ife (.cmp .Is (.var 3) .cnon) (.cons (.ret (.new 24 60 (.cons (.var 2) (.cons .bad .nil)) .nil))
    .nil) .nil)
    (.cons (.sset (.var 1) (.var 2) (.var 3))
    .nil)))
/-- weighing.fewest: 0 ladder 1 scenes 2 kept 3 scene 4 some; HOLES: DictComp {some: scenes[some] for some in scenes if len(some) < len(ke -/
def b81 : Ss := (.cons (.expr (.call 69 54 (.cons (.var 0) .nil) .nil))
    (.cons (.asg (.name 1) .dnew)
    (.cons (.for (.name 2) (.of (.call 77 59 (.cons (.att (.var 0) "width") .nil) .nil)) b81_1)
    (.cons (.ret .cnon)
    .nil))))
def b82_1 : Ss := (.cons (.expr (.met (.var 4) .append (.cons (.tup (.cons (.tup (.cons (.cstr "tell") (.cons (.var 3) (.cons (.var 7) .nil)))) (.cons (.tup (.cons (.cstr "tell") (.cons (.var 6) (.cons (.var 8) .nil)))) .nil))) .nil)))
    .nil)
def b82_2 : Ss := (.cons (.for (.name 8) (.of (.lst false (.cons .cnon (.star (.call 44 31 (.cons (.var 0) (.cons (.lst false (.star (.var 2) (.cons (.var 7) .nil))) .nil)) .nil) .nil)))) b82_1)
    .nil)
def b82_3 : Ss := (.cons (.for (.name 7) (.of (.var 5)) b82_2)
    .nil)
def b82_4 : Ss := (.cons (.for (.name 6) (.rng (.cons (.bin .Add (.var 3) (.cint 1)) (.cons (.var 1) .nil))) b82_3)
    .nil)
/-- orders.tells_of: 0 known 1 sources 2 values 3 one 4 found 5 menu 6 other 7 value 8 last -/
def b82 : Ss := (.cons (.par [4, 5] (.cons (.lst true .nil) (.cons (.lst false (.cons .cnon (.star (.call 44 31 (.cons (.var 0) (.cons (.var 2) .nil)) .nil) .nil))) .nil)))
    (.cons (.for (.name 3) (.rng (.cons (.var 1) .nil)) b82_4)
    (.cons (.ret (.var 4))
    .nil)))
/-- orders.both_ways: 0 plan 1 state 2 tells 3 one 4 first 5 last -/
def b83 : Ss := (.cons (.asg (.tup [4, 5]) (.var 2))
    (.cons (.asg (.name 3) (.call 42 28 (.cons (.var 0) (.cons (.call 42 28 (.cons (.var 0) (.cons (.var 1) (.cons (.var 4) .nil))) .nil) (.cons (.var 5) .nil))) .nil))
    (.cons (.ret (.tup (.cons (.var 3) (.cons (.call 42 28 (.cons (.var 0) (.cons (.call 42 28 (.cons (.var 0) (.cons (.var 1) (.cons (.var 5) .nil))) .nil) (.cons (.var 4) .nil))) .nil) .nil))))
    .nil)))
def b84_1 : Ss := (.cons (.asg (.name 9) (.call 37 25 (.cons (.var 1) (.cons (.call 42 28 (.cons (.var 0) (.cons (.var 7) (.cons (.var 8) .nil))) .nil) .nil)) .nil))
    (.cons (.ife (.cmp .NotIn (.var 9) (.var 3)) (.cons (.ife (.cmp .Eq (.blt .len (.cons (.var 3) .nil)) (.glo 7)) (.cons (.raise 9)
    .nil) .nil)
    (.cons .never
    (.cons (.expr (.met (.var 5) .append (.cons (.var 9) .nil)))
    .nil))) .nil)
    .nil))
def b84_2 : Ss := (.cons (.asg (.name 7) (.sub (.var 5) (.var 6)))
    (.cons (.aug .Add 6 (.cint 1))
    (.cons (.for (.name 8) (.of (.blt .list (.cons (.call 45 30 (.cons (.att (.var 0) "sources") (.cons (.olen (.var 0)) (.cons (.sub (.var 7) (.cint 3)) (.cons (.call 44 31 (.cons (.var 1) (.cons (.lst false (.star (.sub (.var 7) (.cint 0)) (.star (.sub (.var 7) (.cint 2)) .nil))) .nil)) .nil) .nil)))) .nil) .nil))) b84_1)
    .nil)))
/-- orders.reached: 0 plan 1 known 2 begin 3 roads 4 depths 5 queue 6 at 7 state 8 deed 9 bare; HOLES: target (roads[bare], depths[bare]); Dict {begin: 0}; Dict {begin: None} -/
def b84 : Ss := (.cons (.par [1, 2] (.cons (.att (.var 0) "known") (.cons (.call 33 35 (.cons (.var 0) .nil) .nil) .nil)))
    (.cons (.asg (.tup [3, 4, 5, 6]) (.tup (.cons .bad (.cons .bad (.cons (.lst false (.cons (.var 2) .nil)) (.cons (.cint 0) .nil))))))
    (.cons (.whl (.cmp .Lt (.var 6) (.blt .len (.cons (.var 5) .nil))) b84_2)
    (.cons (.ret (.tup (.cons (.var 3) (.cons (.var 4) .nil))))
    .nil))))
def b85_1 : Ss := (.cons (.asg (.name 5) (.call 60 45 (.cons (.var 1) (.cons (.call 83 63 (.cons (.var 0) (.cons (.var 2) (.cons (.var 4) .nil))) .nil) .nil)) .nil))
    (.cons (.ife (.cmp .NotEq (.sub (.var 5) (.cint 0)) (.sub (.var 5) (.cint 1))) (.cons (.expr (.met (.var 3) .append (.cons (.tup (.cons (.var 5) (.cons (.var 4) .nil))) .nil)))
    .nil) .nil)
    .nil))
/-- orders.swapped: 0 plan 1 known 2 state 3 found 4 tells 5 pair -/
def b85 : Ss := (.cons (.asg (.name 3) (.lst true .nil))
    (.cons (.for (.name 4) (.of (.call 82 62 (.cons (.var 1) (.cons (.att (.var 0) "sources") (.cons (.lst false (.star (.sub (.var 2) (.cint 0)) (.star (.sub (.var 2) (.cint 2)) .nil))) .nil))) .nil)) b85_1)
    (.cons (.ret (.var 3))
    .nil)))
def b86_1 : Ss := (.cons (.asg (.name 5) (.call 60 45 (.cons (.var 1) (.cons (.tup (.cons (.call 42 28 (.cons (.var 0) (.cons (.sub (.var 2) (.cint 0)) (.cons (.var 4) .nil))) .nil) (.cons (.call 42 28 (.cons (.var 0) (.cons (.sub (.var 2) (.cint 1)) (.cons (.var 4) .nil))) .nil) .nil))) .nil)) .nil))
    (.cons (.ife (.cmp .NotEq (.sub (.var 5) (.cint 0)) (.sub (.var 5) (.cint 1))) (.cons (.expr (.met (.var 3) .append (.cons (.tup (.cons (.var 5) (.cons (.var 4) .nil))) .nil)))
    .nil) .nil)
    .nil))
/-- orders.later_pairs: 0 plan 1 known 2 pair 3 found 4 deed 5 later -/
def b86 : Ss := (.cons (.asg (.name 3) (.lst true .nil))
    (.cons (.for (.name 4) (.of (.call 61 44 (.cons (.var 0) (.cons (.var 1) (.cons (.var 2) .nil))) .nil)) b86_1)
    (.cons (.ret (.var 3))
    .nil)))
def b87_1 : Ss := (.cons (.ife (.cmp .NotIn (.var 5) (.var 0)) (.cons (.ife (.cmp .Eq (.bin .Add (.blt .len (.cons (.var 0) .nil)) (.blt .len (.cons (.var 3) .nil))) (.glo 7)) (.cons (.raise 9)
    .nil) .nil)
    (.cons (.sset (.var 0) (.var 5) (.tup (.cons (.var 2) (.cons (.var 6) .nil))))
    (.cons (.expr (.met (.var 4) .append (.cons (.var 5) .nil)))
    .nil))) .nil)
    .nil)
/-- orders.put: 0 roads 1 rows 2 spot 3 depths 4 found 5 pair 6 deed -/
def b87 : Ss := (.cons (.asg (.name 4) (.lst true .nil))
    (.cons (.for (.tup [5, 6]) (.of (.var 1)) b87_1)
    (.cons (.ret (.var 4))
    .nil)))
def b88_1 : Ss := (.cons (.ife (.call 62 46 (.cons (.var 0) (.cons (.var 0) (.cons (.var 9) .nil))) .nil) (.cons (.expr (.met (.var 8) .extend (.cons (.call 87 64 (.cons (.var 3) (.cons (.call 86 65 (.cons (.var 0) (.cons (.var 2) (.cons (.var 9) .nil))) .nil) (.cons (.var 9) (.cons (.var 1) .nil)))) .nil) .nil)))
    .nil) (.cons (.ife (.cmp .Is (.var 6) .cnon) (.cons (.asg (.name 6) (.tup (.cons (.var 9) (.cons (.var 5) .nil))))
    .nil) .nil)
    .nil))
    .nil)
def b88_2 : Ss := (.cons (.expr (.met (.var 4) .extend (.cons (.call 87 64 (.cons (.var 3) (.cons (.call 85 66 (.cons (.var 0) (.cons (.var 2) (.cons (.var 7) .nil))) .nil) (.cons (.var 7) (.cons (.var 1) .nil)))) .nil) .nil)))
    .nil)
def b88_3 : Ss := (.cons (.for (.name 7) (.of (.lc false [10] (.name 10) (.of (.var 1)) (.cons (.cmp .Eq (.sub (.var 1) (.var 10)) (.var 5)) .nil) (.var 10))) b88_2)
    (.cons (.asg (.name 8) (.lst true .nil))
    (.cons (.for (.name 9) (.of (.var 4)) b88_1)
    (.cons (.asg (.tup [4, 5]) (.tup (.cons (.var 8) (.cons (.bin .Add (.var 5) (.cint 1)) .nil))))
    .nil))))
/-- orders.explored: 0 plan 1 depths 2 known 3 roads 4 layer 5 number 6 parted 7 state 8 fresh 9 pair 10 one 11 many; HOLES: call depths.values -/
def b88 : Ss := (.cons (.asg (.tup [2, 3, 4, 5, 6]) (.tup (.cons (.att (.var 0) "known") (.cons .dnew (.cons (.lst false .nil) (.cons (.cint 0) (.cons .cnon .nil)))))))
    (.cons (.whl (.or (.var 4) (.cmp .LtE (.var 5) (.blt .max (.cons (.lc false [11] (.name 11) (.of .bad) .nil (.blt .int (.cons (.var 11) .nil))) .nil)))) b88_3)
    (.cons (.ret (.tup (.cons (.var 3) (.cons (.var 6) .nil))))
    .nil)))
def b89_1 : Ss := (.cons (.asg (.tup [7, 8]) (.sub (.var 1) (.var 7)))
    (.cons (.expr .bad)
    .nil))
def b89_2 : Ss := (.cons (.expr .bad)
    (.cons (.asg (.tup [7, 8]) (.sub (.var 2) (.var 7)))
    .nil))
/-- orders.evidence: 0 plan 1 before 2 roads 3 pair 4 rest 5 path 6 tells 7 spot 8 deed; HOLES: call path.insert; call rest.insert; target (rest, (spot, deed)) -/
def b89 : Ss := (.cons .never
    (.cons (.whl (.blt .isi (.cons (.sub (.var 8) (.cint 0)) (.cons (.tyv "str") .nil))) b89_2)
    (.cons (.par [5, 6] (.cons (.lst true .nil) (.cons (.var 8) .nil)))
    (.cons (.whl (.cmp .IsNot (.sub (.var 1) (.var 7)) .cnon) b89_1)
    (.cons (.ret (.call 90 67 (.cons (.var 0) (.cons (.var 5) (.cons (.var 6) (.cons (.var 4) .nil)))) .nil))
    .nil)))))
def b90_1 : Ss := (.cons (.expr (.met (.var 12) .append (.cons (.call 49 36 (.cons (.var 9) (.cons (.call 59 43 (.cons (.var 8) .nil) .nil) (.cons (.var 4) .nil))) .nil) .nil)))
    (.cons (.asg (.name 8) (.tup (.cons (.call 42 28 (.cons (.var 0) (.cons (.sub (.var 8) (.cint 0)) (.cons (.sub (.var 12) (.neg (.cint 1))) .nil))) .nil) (.cons (.call 42 28 (.cons (.var 0) (.cons (.sub (.var 8) (.cint 1)) (.cons (.sub (.var 12) (.neg (.cint 1))) .nil))) .nil) .nil))))
    .nil))
def b90_2 : Ss := (.cons (.expr (.met (.var 11) .append (.cons (.call 49 36 (.cons (.var 9) (.cons (.lst false (.star (.sub (.var 10) (.cint 0)) (.star (.sub (.var 10) (.cint 2)) .nil))) (.cons (.var 4) .nil))) .nil) .nil)))
    (.cons (.asg (.name 10) (.call 42 28 (.cons (.var 0) (.cons (.var 10) (.cons (.sub (.var 11) (.neg (.cint 1))) .nil))) .nil))
    .nil))
/-- orders.lifted_all: 0 plan 1 path 2 tells 3 rest 4 deed 5 values 6 first 7 both 8 pair 9 known 10 state 11 run 12 later -/
def b90 : Ss := (.cons (.asg (.tup [9, 10, 11, 12]) (.tup (.cons (.att (.var 0) "known") (.cons (.call 33 35 (.cons (.var 0) .nil) .nil) (.cons (.lst false .nil) (.cons (.lst false .nil) .nil))))))
    (.cons (.for (.name 4) (.of (.var 1)) b90_2)
    (.cons (.asg (.name 5) (.lst false (.star (.sub (.var 10) (.cint 0)) (.star (.sub (.var 10) (.cint 2)) .nil))))
    (.cons (.asg (.name 6) (.call 49 36 (.cons (.var 9) (.cons (.var 5) (.cons (.sub (.var 2) (.cint 0)) .nil))) .nil))
    (.cons (.asg (.name 7) (.tup (.cons (.var 6) (.cons (.call 49 36 (.cons (.var 9) (.cons (.lst false (.star (.var 5) (.cons (.sub (.var 6) (.cint 2)) .nil))) (.cons (.sub (.var 2) (.cint 1)) .nil))) .nil) .nil))))
    (.cons (.asg (.name 8) (.call 83 63 (.cons (.var 0) (.cons (.var 10) (.cons (.var 7) .nil))) .nil))
    (.cons (.for (.name 4) (.of (.var 3)) b90_1)
    (.cons (.ret (.new 26 68 (.cons (.var 11) (.cons (.var 7) (.cons (.var 12) .nil))) .nil))
    .nil))))))))
/-- orders.is_closed: 0 plan 1 known 2 pair 3 rows 4 later 5 one 6 other 7 values 8 deed 9 some 10 tells -/
def b91 : Ss := (.cons (.ife (.or (.not (.call 31 21 (.cons (.var 0) (.cons (.sub (.var 2) (.cint 0)) .nil)) .nil)) (.or (.not (.call 31 21 (.cons (.var 0) (.cons (.sub (.var 2) (.cint 1)) .nil)) .nil)) (.cmp .NotEq (.sub (.sub (.var 2) (.cint 0)) (.cint 0)) (.sub (.sub (.var 2) (.cint 1)) (.cint 0))))) (.cons (.ret (.cbl false))
    .nil) .nil)
    (.cons (.ife (.or (.cmp .NotEq (.call 60 45 (.cons (.var 1) (.cons (.var 2) .nil)) .nil) (.var 2)) (.not (.call 62 46 (.cons (.var 0) (.cons (.var 0) (.cons (.var 2) .nil))) .nil))) (.cons (.ret (.cbl false))
    .nil) .nil)
    (.cons (.asg (.tup [5, 6]) (.var 2))
    (.cons (.asg (.name 4) (.lc true [8] (.name 8) (.of (.call 61 44 (.cons (.var 0) (.cons (.var 1) (.cons (.var 2) .nil))) .nil)) .nil (.tup (.cons (.call 42 28 (.cons (.var 0) (.cons (.var 5) (.cons (.var 8) .nil))) .nil) (.cons (.call 42 28 (.cons (.var 0) (.cons (.var 6) (.cons (.var 8) .nil))) .nil) .nil)))))
    (.cons (.ife (.cmp .Eq (.sub (.var 2) (.cint 0)) (.sub (.var 2) (.cint 1))) (.cons (.asg (.name 7) (.lst false (.star (.sub (.sub (.var 2) (.cint 0)) (.cint 0)) (.star (.sub (.sub (.var 2) (.cint 0)) (.cint 2)) .nil))))
    (.cons (.expr (.met (.var 4) .extend (.cons (.lc false [10] (.name 10) (.of (.call 82 62 (.cons (.var 1) (.cons (.att (.var 0) "sources") (.cons (.var 7) .nil))) .nil)) .nil (.call 83 63 (.cons (.var 0) (.cons (.sub (.var 2) (.cint 0)) (.cons (.var 10) .nil))) .nil)) .nil)))
    .nil)) .nil)
    (.cons (.ret (.blt .all (.cons (.lc false [9] (.name 9) (.of (.var 4)) .nil (.cmp .In (.call 60 45 (.cons (.var 1) (.cons (.var 9) .nil)) .nil) (.var 3))) .nil)))
    .nil))))))
/-- orders.are_tells: 0 plan 1 first 2 last -/
def b92 : Ss := (.cons (.ife (.or (.not (.call 39 29 (.cons (.var 0) (.cons (.call 33 35 (.cons (.var 0) .nil) .nil) (.cons (.var 1) .nil))) .nil)) (.not (.call 39 29 (.cons (.var 0) (.cons (.call 33 35 (.cons (.var 0) .nil) .nil) (.cons (.var 2) .nil))) .nil))) (.cons (.ret (.cbl false))
    .nil) .nil)
    (.cons (.ret (.and (.cmp .Eq (.sub (.var 1) (.cint 0)) (.cstr "tell")) (.and (.cmp .Eq (.sub (.var 2) (.cint 0)) (.cstr "tell")) (.cmp .Lt (.sub (.var 1) (.cint 1)) (.sub (.var 2) (.cint 1))))))
    .nil))
/-- orders.order_of: 0 plan 1 before 2 depths 3 roads 4 parted 5 state -/
def b93 : Ss := (.cons (.expr (.call 28 22 (.cons (.var 0) .nil) .nil))
    (.cons (.asg (.tup [1, 2]) (.call 84 72 (.cons (.var 0) .nil) .nil))
    (.cons (.asg (.tup [3, 4]) (.call 88 71 (.cons (.var 0) (.cons (.var 2) .nil)) .nil))
    (.cons (.ife (.cmp .Is (.var 4) .cnon) (.cons (.ret (.new 25 70 (.cons (.lst false (.star (.lc false [5] (.name 5) (.of (.var 2)) .nil (.tup (.cons (.var 5) (.cons (.var 5) .nil)))) (.star (.var 3) .nil))) .nil) .nil))
    .nil) .nil)
    (.cons (.ret (.call 89 69 (.cons (.var 0) (.cons (.var 1) (.cons (.var 3) (.cons (.sub (.var 4) (.cint 0)) .nil)))) .nil))
    .nil)))))
/-- orders.is_steady: 0 plan -/
def b94 : Ss := (.cons (.ret (.cmp .Is (.call 95 73 (.cons (.var 0) .nil) .nil) .cnon))
    .nil)
/-- orders.unsteady_length: 0 plan 1 before 2 depths 3 roads 4 parted -/
def b95 : Ss := (.cons (.expr (.call 28 22 (.cons (.var 0) .nil) .nil))
    (.cons (.asg (.tup [1, 2]) (.call 84 72 (.cons (.var 0) .nil) .nil))
    (.cons (.asg (.tup [3, 4]) (.call 88 71 (.cons (.var 0) (.cons (.var 2) .nil)) .nil))
    (.cons (.ret (.ife (.cmp .Is (.var 4) .cnon) .cnon (.sub (.var 4) (.cint 1))))
    .nil))))
/-- orders.two_tells: 0 plan 1 state -/
def b96 : Ss := (.cons (.expr (.call 32 24 (.cons (.var 0) (.cons (.var 1) .nil)) .nil))
    (.cons (.ret (.call 82 62 (.cons (.att (.var 0) "known") (.cons (.att (.var 0) "sources") (.cons (.lst false (.star (.sub (.var 1) (.cint 0)) (.star (.sub (.var 1) (.cint 2)) .nil))) .nil))) .nil))
    .nil))
/-- wishes.check_wish: 0 plan 1 state 2 wish -/
def b97 : Ss := (.cons (.expr (.call 32 24 (.cons (.var 0) (.cons (.var 1) .nil)) .nil))
    (.cons (.ife (.not (.call 2 3 (.cons (.var 2) (.cons (.olen (.var 0)) .nil)) .nil)) (.cons (.raise 10)
    .nil) .nil)
    .nil))
/-- wishes.is_granted: 0 plan 1 state 2 wish 3 rows 4 value 5 seen; HOLES: call zip -/
def b98 : Ss := (.cons (.asg (.name 3) (.blt .list (.cons .bad .nil)))
    (.cons (.ret (.and (.cmp .Eq (.sub (.var 1) (.cint 3)) (.tup .nil)) (.blt .all (.cons (.lc false [4, 5] (.tup [4, 5]) (.of (.var 3)) .nil (.or (.cmp .Is (.var 4) .cnon) (.cmp .Eq (.var 4) (.var 5)))) .nil))))
    .nil))
/-- wishes.field_deeds: 0 plan 1 state 2 wish 3 menu -/
def b99 : Ss := (.cons (.asg (.name 3) (.call 44 31 (.cons (.att (.var 0) "known") (.cons (.lst false (.star (.sub (.var 1) (.cint 0)) (.star (.sub (.var 1) (.cint 2)) (.star (.var 2) .nil)))) .nil)) .nil))
    (.cons (.ret (.blt .list (.cons (.call 45 30 (.cons (.cint 0) (.cons (.olen (.var 0)) (.cons (.sub (.var 1) (.cint 3)) (.cons (.var 3) .nil)))) .nil) .nil)))
    .nil))
def b100_1 : Ss := (.cons (.asg (.name 10) (.call 42 28 (.cons (.var 0) (.cons (.var 8) (.cons (.var 9) .nil))) .nil))
    (.cons (.ife (.cmp .NotIn (.var 10) (.var 3)) (.cons (.ife (.cmp .Eq (.blt .len (.cons (.var 3) .nil)) (.glo 8)) (.cons (.raise 9)
    .nil) .nil)
    (.cons .never
    (.cons (.expr (.met (.var 7) .append (.cons (.var 10) .nil)))
    .nil))) .nil)
    .nil))
def b100_2 : Ss := (.cons (.for (.name 9) (.of (.call 99 74 (.cons (.var 0) (.cons (.var 8) (.cons (.var 2) .nil))) .nil)) b100_1)
    .nil)
def b100_3 : Ss := (.cons (.asg (.name 6) (.lc false [8] (.name 8) (.of (.var 5)) (.cons (.call 98 75 (.cons (.var 0) (.cons (.var 8) (.cons (.var 2) .nil))) .nil) .nil) (.var 8)))
    (.cons (.ife (.var 6) (.cons (.ret (.tup (.cons (.var 3) (.cons (.var 4) (.cons (.sub (.var 6) (.cint 0)) .nil)))))
    .nil) .nil)
    (.cons (.asg (.name 7) (.lst true .nil))
    (.cons (.for (.name 8) (.of (.var 5)) b100_2)
    (.cons (.asg (.name 5) (.var 7))
    .nil)))))
/-- wishes.explored: 0 plan 1 state 2 wish 3 roads 4 depths 5 layer 6 granting 7 fresh 8 one 9 deed 10 later; HOLES: target (roads[later], depths[later]); Dict {state: 0}; Dict {state: None} -/
def b100 : Ss := (.cons (.par [3, 4, 5] (.cons .bad (.cons .bad (.cons (.lst false (.cons (.var 1) .nil)) .nil))))
    (.cons (.whl (.cbl true) b100_3)
    .nil))
/-- wishes.is_barred: 0 plan 1 wish 2 marks 3 state 4 later 5 deed 6 one -/
def b101 : Ss := (.cons (.ife (.or (.cmp .Lt (.sub (.var 2) (.var 3)) (.cint 1)) (.call 98 75 (.cons (.var 0) (.cons (.var 3) (.cons (.var 1) .nil))) .nil)) (.cons (.ret (.cbl false))
    .nil) .nil)
    (.cons (.ife (.cmp .Eq (.sub (.var 2) (.var 3)) (.cint 1)) (.cons (.ret (.cbl true))
    .nil) .nil)
    (.cons (.asg (.name 4) (.lc false [5] (.name 5) (.of (.call 99 74 (.cons (.var 0) (.cons (.var 3) (.cons (.var 1) .nil))) .nil)) .nil (.call 42 28 (.cons (.var 0) (.cons (.var 3) (.cons (.var 5) .nil))) .nil)))
    (.cons (.ret (.blt .all (.cons (.lc false [6] (.name 6) (.of (.var 4)) .nil (.and (.cmp .In (.var 6) (.var 2)) (.cmp .GtE (.sub (.var 2) (.var 6)) (.bin .Sub (.sub (.var 2) (.var 3)) (.cint 1))))) .nil)))
    .nil))))
def b102_1 : Ss := (.cons (.asg (.tup [6, 10]) (.sub (.var 4) (.var 6)))
    (.cons (.expr .bad)
    .nil))
/-- wishes.reach: 0 plan 1 state 2 wish 3 marks 4 roads 5 depths 6 spot 7 most 8 found 9 one 10 deed; HOLES: call found.insert; DictComp {one: most - depths[one] for one in depths if depths[one] <  -/
def b102 : Ss := (.cons (.expr (.call 97 78 (.cons (.var 0) (.cons (.var 1) (.cons (.var 2) .nil))) .nil))
    (.cons (.asg (.tup [4, 5, 6]) (.call 100 77 (.cons (.var 0) (.cons (.var 1) (.cons (.var 2) .nil))) .nil))
    (.cons (.asg (.tup [7, 8]) (.tup (.cons (.sub (.var 5) (.var 6)) (.cons (.lst false .nil) .nil))))
    (.cons (.asg (.name 3) .bad)
    (.cons (.whl (.cmp .IsNot (.sub (.var 4) (.var 6)) .cnon) b102_1)
    (.cons (.ret (.new 27 76 (.cons (.var 8) (.cons (.var 3) .nil)) .nil))
    .nil))))))
/-- wishes.reach_size: 0 plan 1 state 2 wish -/
def b103 : Ss := (.cons (.ret (.blt .len (.cons (.att (.call 102 79 (.cons (.var 0) (.cons (.var 1) (.cons (.var 2) .nil))) .nil) "deeds") .nil)))
    .nil)
/-- wishes.granted: 0 plan 1 state 2 wish -/
def b104 : Ss := (.cons (.expr (.call 97 78 (.cons (.var 0) (.cons (.var 1) (.cons (.var 2) .nil))) .nil))
    (.cons (.ret (.call 98 75 (.cons (.var 0) (.cons (.var 1) (.cons (.var 2) .nil))) .nil))
    .nil))
/-- desks.are_edits: 0 plan 1 pairs 2 field 3 value; HOLES: call pairs.items -/
def b105 : Ss := (.cons (.ife (.not (.blt .isi (.cons (.var 1) (.cons (.tyv "dict") .nil)))) (.cons (.ret (.cbl false))
    .nil) .nil)
    (.cons (.ret (.blt .all (.cons (.lc false [2, 3] (.tup [2, 3]) (.of .bad) .nil (.and (.call 1 1 (.cons (.var 2) (.cons (.olen (.var 0)) .nil)) .nil) (.call 0 0 (.cons (.var 3) .nil) .nil))) .nil)))
    .nil))
/-- desks.are_fields: 0 plan 1 fields 2 one; HOLES: isinstance of several -/
def b106 : Ss := (.cons (.ret (.and .bad (.blt .all (.cons (.lc false [2] (.name 2) (.of (.var 1)) .nil (.call 1 1 (.cons (.var 2) (.cons (.olen (.var 0)) .nil)) .nil)) .nil))))
    .nil)
/-- texts.form_text: 0 form; HOLES: name SIGNS; call str -/
def b107 : Ss := (.cons (.ife (.cmp .Eq (.sub (.var 0) (.cint 0)) (.cstr "source")) (.cons (.ret (.sub (.glo 9) (.sub (.var 0) (.cint 1))))
    .nil) .nil)
    (.cons (.ife (.cmp .Eq (.sub (.var 0) (.cint 0)) (.cstr "fixed")) (.cons (.ret .bad)
    .nil) .nil)
    (.cons (.ret (.bin .Add (.bin .Add (.bin .Add (.bin .Add (.cstr "(") (.call 107 80 (.cons (.sub (.var 0) (.cint 1)) .nil) .nil)) (.sub .bad (.sub (.var 0) (.cint 0)))) (.call 107 80 (.cons (.sub (.var 0) (.cint 2)) .nil) .nil)) (.cstr ")")))
    .nil)))
/-- texts.ladder_text: 0 ladder -/
def b108 : Ss := (.cons (.ife (.not (.isO (.var 0) 18)) (.cons (.raise 4)
    .nil) .nil)
    (.cons (.ret (.call 107 80 (.cons (.att (.var 0) "form") .nil) .nil))
    .nil))
/-- texts.number_of: 0 word 1 digits 2 sign -/
def b109 : Ss := (.cons (.asg (.name 1) (.ife (.cmp .Eq (.slc (.var 0) .no (.cint 1)) (.cstr "-")) (.slc (.var 0) (.cint 1) .no) (.var 0)))
    (.cons (.ife (.or (.cmp .Eq (.var 1) (.cstr "")) (.not (.blt .all (.cons (.lc false [2] (.name 2) (.of (.var 1)) .nil (.cmp .In (.var 2) (.cstr "0123456789"))) .nil)))) (.cons (.ret .cnon)
    .nil) .nil)
    (.cons (.ife (.or (.and (.cmp .Gt (.blt .len (.cons (.var 1) .nil)) (.cint 1)) (.cmp .Eq (.sub (.var 1) (.cint 0)) (.cstr "0"))) (.cmp .Eq (.var 0) (.cstr "-0"))) (.cons (.ret .cnon)
    .nil) .nil)
    (.cons (.ret (.blt .int (.cons (.var 0) .nil)))
    .nil))))
/-- texts.leaf_of: 0 word 1 number; HOLES: call LETTERS.index -/
def b110 : Ss := (.cons (.ife (.cmp .In (.var 0) (.glo 9)) (.cons (.ret (.tup (.cons (.cstr "source") (.cons .bad .nil))))
    .nil) .nil)
    (.cons (.asg (.name 1) (.call 109 81 (.cons (.var 0) .nil) .nil))
    (.cons (.ret (.ife (.cmp .Is (.var 1) .cnon) .cnon (.tup (.cons (.cstr "fixed") (.cons (.var 1) .nil)))))
    .nil)))
def b111_1 : Ss := (.cons (.ife (.cmp .Eq (.var 3) (.cstr "(")) (.cons (.aug .Add 1 (.cint 1))
    .nil) (.cons (.ife (.cmp .Eq (.var 3) (.cstr ")")) (.cons (.aug .Sub 1 (.cint 1))
    .nil) (.cons (.ife (.and (.cmp .Eq (.var 1) (.cint 1)) (.and (.cmp .Gt (.var 2) (.cint 1)) (.cmp .In (.var 3) (.cstr "|&^->")))) (.cons (.ret (.var 2))
    .nil) .nil)
    .nil))
    .nil))
    .nil)
/-- texts.middle_of: 0 text 1 deep 2 at 3 sign -/
def b111 : Ss := (.cons (.asg (.name 1) (.cint 0))
    (.cons (.for (.tup [2, 3]) (.enum (.var 0)) b111_1)
    (.cons (.ret .cnon)
    .nil)))
/-- texts.form_in: 0 text 1 deep 2 at 3 sign 4 left 5 right; HOLES: name WORDS; name WORDS -/
def b112 : Ss := (.cons (.ife (.cmp .NotEq (.slc (.var 0) .no (.cint 1)) (.cstr "(")) (.cons (.ret (.call 110 84 (.cons (.var 0) .nil) .nil))
    .nil) .nil)
    (.cons (.asg (.name 2) (.call 111 83 (.cons (.var 0) .nil) .nil))
    (.cons (.ife (.or (.cmp .Is (.var 2) .cnon) (.or (.cmp .NotEq (.slc (.var 0) (.neg (.cint 1)) .no) (.cstr ")")) (.cmp .Gt (.var 1) (.glo 1)))) (.cons (.ret .cnon)
    .nil) .nil)
    (.cons (.asg (.name 3) (.ife (.cmp .Eq (.slc (.var 0) (.var 2) (.bin .Add (.var 2) (.cint 2))) (.cstr ">>")) (.cstr ">>") (.sub (.var 0) (.var 2))))
    (.cons (.par [4, 5] (.cons (.call 112 82 (.cons (.slc (.var 0) (.cint 1) (.var 2)) (.cons (.bin .Add (.var 1) (.cint 1)) .nil)) .nil) (.cons (.call 112 82 (.cons (.slc (.var 0) (.bin .Add (.var 2) (.blt .len (.cons (.var 3) .nil))) (.neg (.cint 1))) (.cons (.bin .Add (.var 1) (.cint 1)) .nil)) .nil) .nil)))
    (.cons (.ife (.or (.cmp .NotIn (.var 3) .bad) (.or (.cmp .Is (.var 4) .cnon) (.cmp .Is (.var 5) .cnon))) (.cons (.ret .cnon)
    .nil) .nil)
    (.cons (.ret (.tup (.cons (.sub .bad (.var 3)) (.cons (.var 4) (.cons (.var 5) .nil)))))
    .nil)))))))
/-- texts.ladder_in: 0 text 1 form -/
def b113 : Ss := (.cons (.asg (.name 1) (.call 112 86 (.cons (.var 0) .nil) .nil))
    (.cons (.ret (.ife (.and (.cmp .IsNot (.var 1) .cnon) (.cmp .LtE (.blt .len (.cons (.call 15 13 (.cons (.var 1) .nil) .nil) .nil)) (.glo 1))) (.new 18 85 (.cons (.var 1) .nil) .nil) .cnon))
    .nil))
/-- texts.read_ladder: 0 text 1 found; HOLES: raise BadText(0) -/
def b114 : Ss := (.cons (.asg (.name 1) (.ife (.blt .isi (.cons (.var 0) (.cons (.tyv "str") .nil))) (.call 113 87 (.cons (.var 0) .nil) .nil) .cnon))
    (.cons (.ife (.cmp .Is (.var 1) .cnon) (.cons .never
    .nil) .nil)
    (.cons (.ret (.var 1))
    .nil)))
/-- texts.plan_text: 0 plan 1 rows 2 ladder 3 rule 4 some 5 row 6 one; HOLES: call ''.join; for: iterator zip(plan.ladders, plan.rules, plan.under); JoinedStr f'sources {plan.sources}' -/
def b115 : Ss := (.cons (.expr (.call 28 22 (.cons (.var 0) .nil) .nil))
    (.cons (.asg (.name 1) (.lst true (.cons .bad .nil)))
    (.cons .never
    (.cons (.ret .bad)
    .nil))))
/-- texts.lines_of: 0 text 1 rows; HOLES: call text.split; raise BadText(0) -/
def b116 : Ss := (.cons (.ife (.not (.blt .isi (.cons (.var 0) (.cons (.tyv "str") .nil)))) (.cons .never
    .nil) .nil)
    (.cons (.asg (.name 1) .bad)
    (.cons (.ret (.tup (.cons (.slc (.var 1) .no (.neg (.cint 1))) (.cons (.sub (.var 1) (.neg (.cint 1))) .nil))))
    .nil)))
/-- texts.field_in: 0 line 1 width 2 under 3 words 4 ladder 5 some 6 word; HOLES: call line.split -/
def b117 : Ss := (.cons (.asg (.name 3) .bad)
    (.cons (.asg (.name 4) (.ife (.and (.cmp .Gt (.blt .len (.cons (.var 3) .nil)) (.cint 1)) (.cmp .In (.sub (.var 3) (.cint 0)) (.glo 3))) (.call 113 87 (.cons (.sub (.var 3) (.cint 1)) .nil) .nil) .cnon))
    (.cons (.ife (.or (.cmp .Is (.var 4) .cnon) (.cmp .Gt (.att (.var 4) "width") (.var 1))) (.cons (.ret .cnon)
    .nil) .nil)
    (.cons (.asg (.name 5) (.blt .tuple (.cons (.lc false [6] (.name 6) (.of (.slc (.var 3) (.cint 2) .no)) .nil (.call 109 81 (.cons (.var 6) .nil) .nil)) .nil)))
    (.cons (.ife (.or (.cmp .In .cnon (.var 5)) (.not (.call 27 88 (.cons (.tup (.star (.var 2) (.cons (.var 5) .nil))) (.cons (.bin .Add (.blt .len (.cons (.var 2) .nil)) (.cint 1)) .nil)) .nil))) (.cons (.ret .cnon)
    .nil) .nil)
    (.cons (.ret (.tup (.cons (.sub (.var 3) (.cint 0)) (.cons (.var 4) (.cons (.var 5) .nil)))))
    .nil))))))
def b118_1 : Ss := (.cons (.asg (.name 8) (.ife (.cmp .LtE (.var 6) (.cint 3)) (.call 117 90 (.cons (.var 7) (.cons (.blt .int (.cons (.sub (.sub (.var 1) (.cint 0)) (.neg (.cint 1))) .nil)) (.cons (.var 5) .nil))) .nil) .cnon))
    (.cons (.ife (.cmp .Is (.var 8) .cnon) (.cons .never
    .nil) .nil)
    (.cons (.expr (.met (.var 3) .append (.cons (.sub (.var 8) (.cint 0)) .nil)))
    (.cons (.expr (.met (.var 4) .append (.cons (.sub (.var 8) (.cint 1)) .nil)))
    (.cons (.expr (.met (.var 5) .append (.cons (.sub (.var 8) (.cint 2)) .nil)))
    .nil)))))
/-- texts.read_plan: 0 text 1 rows 2 rest 3 rules 4 ladders 5 under 6 at 7 line 8 found 9 many; HOLES: raise BadText(len(rows)); call enumerate; raise BadText(at); JoinedStr f'sources {many}'; raise BadText(0) -/
def b118 : Ss := (.cons (.asg (.tup [1, 2]) (.call 116 91 (.cons (.var 0) .nil) .nil))
    (.cons (.ife (.and (.var 1) (.cmp .NotIn (.sub (.var 1) (.cint 0)) (.lc false [9] (.name 9) (.rng (.cons (.cint 1) (.cons (.bin .Add (.glo 0) (.cint 1)) .nil))) .nil .bad))) (.cons .never
    .nil) .nil)
    (.cons (.par [3, 4, 5] (.cons (.lst true .nil) (.cons (.lst true .nil) (.cons (.lst true .nil) .nil))))
    (.cons (.for (.tup [6, 7]) (.of .bad) b118_1)
    (.cons (.ife (.or (.cmp .Lt (.blt .len (.cons (.var 1) .nil)) (.cint 2)) (.cmp .NotEq (.var 2) (.cstr ""))) (.cons .never
    .nil) .nil)
    (.cons (.ret (.new 19 89 (.cons (.blt .int (.cons (.sub (.sub (.var 1) (.cint 0)) (.neg (.cint 1))) .nil)) (.cons (.blt .tuple (.cons (.var 4) .nil)) (.cons (.blt .tuple (.cons (.var 3) .nil)) .nil))) (.cons (.blt .tuple (.cons (.var 5) .nil)) .nil)))
    .nil))))))
/-- texts.deed_text: 0 deed 1 words; HOLES: call ' '.join; call str; call str -/
def b119 : Ss := (.cons (.asg (.name 1) (.lst true (.cons (.sub (.var 0) (.cint 0)) (.cons (.ife (.cmp .Eq (.sub (.var 0) (.cint 0)) (.cstr "tell")) (.sub (.glo 9) (.sub (.var 0) (.cint 1))) .bad) .nil))))
    (.cons (.ife (.cmp .Eq (.blt .len (.cons (.var 0) .nil)) (.cint 3)) (.cons (.expr (.met (.var 1) .append (.cons (.ife (.cmp .Is (.sub (.var 0) (.cint 2)) .cnon) (.cstr "none") .bad) .nil)))
    .nil) .nil)
    (.cons (.ret (.bin .Add .bad (.cstr "\n")))
    .nil)))
/-- texts.run_text: 0 plan 1 run 2 deed; HOLES: call ''.join -/
def b120 : Ss := (.cons (.expr (.call 28 22 (.cons (.var 0) .nil) .nil))
    (.cons (.ife (.or (.not (.blt .isi (.cons (.var 1) (.cons (.tyv "list") .nil)))) (.cmp .Is (.call 47 32 (.cons (.var 0) (.cons (.call 33 35 (.cons (.var 0) .nil) .nil) (.cons (.var 1) .nil))) .nil) .cnon)) (.cons (.raise 8)
    .nil) .nil)
    (.cons (.ret .bad)
    .nil)))
/-- texts.deed_in: 0 line 1 words 2 value 3 spot; HOLES: call LETTERS.index; name DEEDS; name DEEDS; call line.split -/
def b121 : Ss := (.cons (.asg (.name 1) .bad)
    (.cons (.ife (.or (.cmp .NotIn (.sub (.var 1) (.cint 0)) .bad) (.cmp .NotEq (.blt .len (.cons (.var 1) .nil)) (.sub .bad (.sub (.var 1) (.cint 0))))) (.cons (.ret .cnon)
    .nil) .nil)
    (.cons (.ife (.cmp .Eq (.sub (.var 1) (.cint 0)) (.cstr "tell")) (.cons (.asg (.name 3) (.ife (.cmp .In (.sub (.var 1) (.cint 1)) (.glo 9)) .bad .cnon))
    .nil) (.cons (.asg (.name 3) (.call 109 81 (.cons (.sub (.var 1) (.cint 1)) .nil) .nil))
    .nil))
    (.cons (.ife (.or (.cmp .Is (.var 3) .cnon) (.cmp .Eq (.blt .len (.cons (.var 1) .nil)) (.cint 2))) (.cons (.ret (.ife (.cmp .Is (.var 3) .cnon) .cnon (.tup (.cons (.sub (.var 1) (.cint 0)) (.cons (.var 3) .nil)))))
    .nil) .nil)
    (.cons (.asg (.name 2) (.call 109 81 (.cons (.sub (.var 1) (.cint 2)) .nil) .nil))
    (.cons (.ife (.and (.cmp .Is (.var 2) .cnon) (.or (.cmp .NotEq (.sub (.var 1) (.cint 0)) (.cstr "tell")) (.cmp .NotEq (.sub (.var 1) (.cint 2)) (.cstr "none")))) (.cons (.ret .cnon)
    .nil) .nil)
    (.cons (.ret (.tup (.cons (.sub (.var 1) (.cint 0)) (.cons (.var 3) (.cons (.var 2) .nil)))))
    .nil)))))))
def b122_1 : Ss := (.cons (.asg (.name 8) (.call 121 92 (.cons (.var 7) .nil) .nil))
    (.cons (.ife (.or (.cmp .Is (.var 8) .cnon) (.not (.call 39 29 (.cons (.var 0) (.cons (.var 4) (.cons (.var 8) .nil))) .nil))) (.cons .never
    .nil) .nil)
    (.cons (.asg (.name 4) (.call 42 28 (.cons (.var 0) (.cons (.var 4) (.cons (.var 8) .nil))) .nil))
    (.cons (.expr (.met (.var 5) .append (.cons (.var 8) .nil)))
    .nil))))
/-- texts.read_run: 0 plan 1 text 2 rows 3 rest 4 state 5 found 6 at 7 line 8 deed; HOLES: raise BadText(len(rows)); raise BadText(at) -/
def b122 : Ss := (.cons (.expr (.call 28 22 (.cons (.var 0) .nil) .nil))
    (.cons (.asg (.tup [2, 3]) (.call 116 91 (.cons (.var 1) .nil) .nil))
    (.cons (.par [4, 5] (.cons (.call 33 35 (.cons (.var 0) .nil) .nil) (.cons (.lst true .nil) .nil)))
    (.cons (.for (.tup [6, 7]) (.enum (.var 2)) b122_1)
    (.cons (.ife (.cmp .NotEq (.var 3) (.cstr "")) (.cons .never
    .nil) .nil)
    (.cons (.ret (.var 5))
    .nil))))))
/-- texts.sheet: 0 plan 1 state 2 values 3 wide 4 rows 5 field 6 word 7 value 8 source; HOLES: call ''.join; for: target (field, (value, source)); call str -/
def b123 : Ss := (.cons (.expr (.call 32 24 (.cons (.var 0) (.cons (.var 1) .nil)) .nil))
    (.cons (.asg (.name 2) (.lc false [7] (.name 7) (.of (.call 35 93 (.cons (.var 0) (.cons (.var 1) .nil)) .nil)) .nil (.ife (.cmp .Is (.var 7) .cnon) (.cstr "-") .bad)))
    (.cons (.par [3, 4] (.cons (.blt .max (.cons (.lc false [7] (.name 7) (.of (.var 2)) .nil (.blt .len (.cons (.var 7) .nil))) .nil)) (.cons (.lst true .nil) .nil)))
    (.cons .never
    (.cons (.ret .bad)
    .nil)))))
/-- errors.BadPlan.__init__: 0 self 1 part; HOLES: call FillError.__init__ -/
def b124 : Ss := (.cons (.expr .bad)
    (.cons (.fset (.var 0) "part" (.var 1))
    .nil))
/-- errors.BadText.__init__: 0 self 1 row; HOLES: call FillError.__init__ -/
def b125 : Ss := (.cons (.expr .bad)
    (.cons (.fset (.var 0) "row" (.var 1))
    .nil))
/-- papers.Paper.words: 0 self -/
def b126 : Ss := (.cons (.ret (.cstr "paper"))
    .nil)
/-- papers.Run.__init__: 0 self 1 run -/
def b127 : Ss := (.cons (.fset (.var 0) "run" (.blt .list (.cons (.var 1) .nil)))
    .nil)
/-- papers.Run.many: 0 self -/
def b128 : Ss := (.cons (.ret (.blt .len (.cons (.att (.var 0) "run") .nil)))
    .nil)
/-- ladders.Ladder.__init__: 0 self 1 form -/
def b129 : Ss := (.cons (.ife (.or (.not (.call 16 94 (.cons (.var 1) .nil) .nil)) (.cmp .Gt (.blt .len (.cons (.call 15 13 (.cons (.var 1) .nil) .nil) .nil)) (.glo 1))) (.cons (.raise 4)
    .nil) .nil)
    (.cons (.fset (.var 0) "form" (.var 1))
    .nil))
/-- ladders.Ladder.of: 0 cls 1 source; HOLES: call of a local cls -/
def b130 : Ss := (.cons (.ife (.not (.call 1 1 (.cons (.var 1) (.cons (.glo 0) .nil)) .nil)) (.cons (.raise 1)
    .nil) .nil)
    (.cons (.ret .bad)
    .nil))
/-- ladders.Ladder.fixed: 0 cls 1 value; HOLES: call of a local cls -/
def b131 : Ss := (.cons (.ife (.not (.call 0 0 (.cons (.var 1) .nil) .nil)) (.cons (.raise 2)
    .nil) .nil)
    (.cons (.ret .bad)
    .nil))
-- 132 ladders.Ladder.first: not put into code (parameters of first)
/-- ladders.Ladder.width: 0 self -/
def b133 : Ss := (.cons (.ret (.call 19 17 (.cons (.att (.var 0) "form") .nil) .nil))
    .nil)
/-- ladders.Ladder.known: 0 self -/
def b134 : Ss := (.cons (.ret (.call 20 16 (.cons (.lst false (.cons (.att (.var 0) "form") .nil)) .nil) .nil))
    .nil)
/-- ladders.Ladder.__eq__: 0 self 1 other -/
def b135 : Ss := (.cons (.ret (.and (.isO (.var 1) 18) (.cmp .Eq (.att (.var 0) "form") (.att (.var 1) "form"))))
    .nil)
/-- ladders.Ladder.__len__: 0 self -/
def b136 : Ss := (.cons (.ret (.blt .len (.cons (.call 15 13 (.cons (.att (.var 0) "form") .nil) .nil) .nil)))
    .nil)
/-- ladders.Ladder.__bool__: 0 self 1 scene; HOLES: star call tells -/
def b137 : Ss := (.cons (.ret (.blt .any (.cons (.lc false [1] (.name 1) (.of (.call 21 18 (.cons (.att (.var 0) "form") (.cons (.att (.var 0) "form") .nil)) .nil)) .nil (.cmp .IsNot .bad .cnon)) .nil)))
    .nil)
/-- ladders.Ladder.__contains__: 0 self 1 source -/
def b138 : Ss := (.cons (.ife (.not (.call 1 1 (.cons (.var 1) (.cons (.glo 0) .nil)) .nil)) (.cons (.raise 1)
    .nil) .nil)
    (.cons (.ret (.cmp .In (.tup (.cons (.cstr "source") (.cons (.var 1) .nil))) (.call 15 13 (.cons (.att (.var 0) "form") .nil) .nil)))
    .nil))
/-- ladders.Ladder.__call__: 0 self 1 contents 2 order -/
def b139 : Ss := (.cons (.ife (.and (.cmp .Is (.var 2) .cnon) (.blt .isi (.cons (.var 1) (.cons (.tyv "tuple") .nil)))) (.cons (.asg (.name 2) (.call 10 7 (.cons (.var 1) .nil) .nil))
    .nil) .nil)
    (.cons (.ife (.not (.call 4 12 (.cons (.tup (.cons (.var 1) (.cons (.var 2) .nil))) (.cons (.call 19 17 (.cons (.att (.var 0) "form") .nil) .nil) .nil)) .nil)) (.cons (.raise 3)
    .nil) .nil)
    (.cons (.ret (.call 18 19 (.cons (.att (.var 0) "form") (.cons (.var 1) (.cons (.var 2) .nil))) .nil))
    .nil)))
/-- ladders.Ladder.__or__: 0 self 1 other -/
def b140 : Ss := (.cons (.ret (.new 18 85 (.cons (.tup (.cons (.cstr "first") (.cons (.att (.var 0) "form") (.cons (.call 23 95 (.cons (.var 1) .nil) .nil) .nil)))) .nil) .nil))
    .nil)
/-- ladders.Ladder.__ror__: 0 self 1 other -/
def b141 : Ss := (.cons (.ret (.new 18 85 (.cons (.tup (.cons (.cstr "first") (.cons (.call 23 95 (.cons (.var 1) .nil) .nil) (.cons (.att (.var 0) "form") .nil)))) .nil) .nil))
    .nil)
/-- ladders.Ladder.__and__: 0 self 1 other -/
def b142 : Ss := (.cons (.ret (.new 18 85 (.cons (.tup (.cons (.cstr "both") (.cons (.att (.var 0) "form") (.cons (.call 23 95 (.cons (.var 1) .nil) .nil) .nil)))) .nil) .nil))
    .nil)
/-- ladders.Ladder.__rand__: 0 self 1 other -/
def b143 : Ss := (.cons (.ret (.new 18 85 (.cons (.tup (.cons (.cstr "both") (.cons (.call 23 95 (.cons (.var 1) .nil) .nil) (.cons (.att (.var 0) "form") .nil)))) .nil) .nil))
    .nil)
/-- ladders.Ladder.__xor__: 0 self 1 other -/
def b144 : Ss := (.cons (.ret (.new 18 85 (.cons (.tup (.cons (.cstr "alone") (.cons (.att (.var 0) "form") (.cons (.call 23 95 (.cons (.var 1) .nil) .nil) .nil)))) .nil) .nil))
    .nil)
/-- ladders.Ladder.__rxor__: 0 self 1 other -/
def b145 : Ss := (.cons (.ret (.new 18 85 (.cons (.tup (.cons (.cstr "alone") (.cons (.call 23 95 (.cons (.var 1) .nil) .nil) (.cons (.att (.var 0) "form") .nil)))) .nil) .nil))
    .nil)
/-- ladders.Ladder.__sub__: 0 self 1 other -/
def b146 : Ss := (.cons (.ret (.new 18 85 (.cons (.tup (.cons (.cstr "except") (.cons (.att (.var 0) "form") (.cons (.call 23 95 (.cons (.var 1) .nil) .nil) .nil)))) .nil) .nil))
    .nil)
/-- ladders.Ladder.__rsub__: 0 self 1 other -/
def b147 : Ss := (.cons (.ret (.new 18 85 (.cons (.tup (.cons (.cstr "except") (.cons (.call 23 95 (.cons (.var 1) .nil) .nil) (.cons (.att (.var 0) "form") .nil)))) .nil) .nil))
    .nil)
/-- ladders.Ladder.__rshift__: 0 self 1 other -/
def b148 : Ss := (.cons (.ret (.new 18 85 (.cons (.tup (.cons (.cstr "later") (.cons (.att (.var 0) "form") (.cons (.call 23 95 (.cons (.var 1) .nil) .nil) .nil)))) .nil) .nil))
    .nil)
/-- ladders.Ladder.__rrshift__: 0 self 1 other -/
def b149 : Ss := (.cons (.ret (.new 18 85 (.cons (.tup (.cons (.cstr "later") (.cons (.call 23 95 (.cons (.var 1) .nil) .nil) (.cons (.att (.var 0) "form") .nil)))) .nil) .nil))
    .nil)
/-- ladders.Ladder.__le__: 0 self 1 other; HOLES: name NotImplemented -/
def b150 : Ss := (.cons (.ife (.not (.isO (.var 1) 18)) (.cons (.ret .bad)
    .nil) .nil)
    (.cons (.ret (.call 22 96 (.cons (.att (.var 0) "form") (.cons (.att (.var 1) "form") .nil)) .nil))
    .nil))
/-- ladders.Ladder.__lt__: 0 self 1 other; HOLES: name NotImplemented -/
def b151 : Ss := (.cons (.ife (.not (.isO (.var 1) 18)) (.cons (.ret .bad)
    .nil) .nil)
    (.cons (.ret (.and (.call 22 96 (.cons (.att (.var 0) "form") (.cons (.att (.var 1) "form") .nil)) .nil) (.not (.call 22 96 (.cons (.att (.var 1) "form") (.cons (.att (.var 0) "form") .nil)) .nil))))
    .nil))
/-- ladders.Ladder.__ge__: 0 self 1 other; HOLES: name NotImplemented -/
def b152 : Ss := (.cons (.ife (.not (.isO (.var 1) 18)) (.cons (.ret .bad)
    .nil) .nil)
    (.cons (.ret (.call 22 96 (.cons (.att (.var 1) "form") (.cons (.att (.var 0) "form") .nil)) .nil))
    .nil))
/-- ladders.Ladder.__gt__: 0 self 1 other; HOLES: name NotImplemented -/
def b153 : Ss := (.cons (.ife (.not (.isO (.var 1) 18)) (.cons (.ret .bad)
    .nil) .nil)
    (.cons (.ret (.and (.call 22 96 (.cons (.att (.var 1) "form") (.cons (.att (.var 0) "form") .nil)) .nil) (.not (.call 22 96 (.cons (.att (.var 0) "form") (.cons (.att (.var 1) "form") .nil)) .nil))))
    .nil))
/-- plans.Plan.__init__: 0 self 1 sources 2 ladders 3 rules 4 under; HOLES: raise BadPlan('UNDER'); raise BadPlan('RULES'); raise BadPlan('LADDERS'); raise BadPlan('SOURCES') -/
def b154 : Ss := (.cons (.ife (.not (.call 24 99 (.cons (.var 1) .nil) .nil)) (.cons .never
    .nil) .nil)
    (.cons (.ife (.not (.call 25 98 (.cons (.var 2) (.cons (.var 1) .nil)) .nil)) (.cons .never
    .nil) .nil)
    (.cons (.ife (.not (.call 26 97 (.cons (.var 3) (.cons (.blt .len (.cons (.var 2) .nil)) .nil)) .nil)) (.cons .never
    .nil) .nil)
    (.cons (.ife (.and (.cmp .IsNot (.var 4) .cnon) (.not (.call 27 88 (.cons (.var 4) (.cons (.blt .len (.cons (.var 2) .nil)) .nil)) .nil))) (.cons .never
    .nil) .nil)
    (.cons (.fset (.var 0) "sources" (.var 1))
    (.cons (.fset (.var 0) "ladders" (.var 2))
    (.cons (.fset (.var 0) "rules" (.var 3))
    (.cons (.fset (.var 0) "under" (.ife (.cmp .Is (.var 4) .cnon) (.blt .tuple (.cons (.bin .Mult (.lst false (.cons (.tup .nil) .nil)) (.blt .len (.cons (.var 2) .nil))) .nil)) (.var 4)))
    .nil))))))))
/-- plans.Plan.known: 0 self 1 one -/
def b155 : Ss := (.cons (.ret (.call 20 16 (.cons (.lc false [1] (.name 1) (.of (.att (.var 0) "ladders")) .nil (.att (.var 1) "form")) .nil) .nil))
    .nil)
/-- plans.Plan.__eq__: 0 self 1 other; HOLES: call self.parts; call other.parts -/
def b156 : Ss := (.cons (.ret (.and (.isO (.var 1) 19) (.cmp .Eq .bad .bad)))
    .nil)
/-- plans.Plan.__len__: 0 self -/
def b157 : Ss := (.cons (.ret (.blt .len (.cons (.att (.var 0) "ladders") .nil)))
    .nil)
/-- plans.Plan.parts: 0 self 1 one -/
def b158 : Ss := (.cons (.ret (.tup (.cons (.att (.var 0) "sources") (.cons (.blt .tuple (.cons (.lc false [1] (.name 1) (.of (.att (.var 0) "ladders")) .nil (.att (.var 1) "form")) .nil)) (.cons (.att (.var 0) "rules") (.cons (.att (.var 0) "under") .nil))))))
    .nil)
/-- keeping.Kept.__init__: 0 self 1 ledgers -/
def b159 : Ss := (.cons (.fset (.var 0) "ledgers" (.blt .list (.cons (.var 1) .nil)))
    .nil)
/-- keeping.Kept.__eq__: 0 self 1 other -/
def b160 : Ss := (.cons (.ret (.and (.isO (.var 1) 20) (.cmp .Eq (.att (.var 0) "ledgers") (.att (.var 1) "ledgers"))))
    .nil)
/-- keeping.Kept.words: 0 self -/
def b161 : Ss := (.cons (.ret (.cstr "kept"))
    .nil)
def b162_1 : Ss := (.cons (.asg (.name 7) (.call 50 34 (.cons (.var 1) (.cons (.var 2) (.cons (.var 3) (.cons (.var 6) .nil)))) .nil))
    (.cons (.ife (.or (.cmp .Is (.var 7) .cnon) (.cmp .NotIn (.tup (.cons (.call 37 25 (.cons (.var 4) (.cons (.sub (.var 7) (.cint 0)) .nil)) .nil) (.cons (.sub (.var 7) (.cint 1)) .nil))) (.var 5))) (.cons (.ret (.cbl false))
    .nil) .nil)
    .nil))
def b162_2 : Ss := (.cons (.ife (.or (.not (.call 31 21 (.cons (.var 1) (.cons (.sub (.var 3) (.cint 0)) .nil)) .nil)) (.cmp .NotEq (.call 37 25 (.cons (.var 4) (.cons (.sub (.var 3) (.cint 0)) .nil)) .nil) (.sub (.var 3) (.cint 0)))) (.cons (.ret (.cbl false))
    .nil) .nil)
    (.cons (.for (.name 6) (.of (.call 51 33 (.cons (.var 1) (.cons (.var 4) (.cons (.sub (.var 3) (.cint 0)) .nil))) .nil)) b162_1)
    .nil))
/-- keeping.Kept.shows: 0 self 1 plan 2 field 3 ledger 4 known 5 rows 6 deed 7 later; HOLES: DictComp {ledger: True for ledger in self.ledgers} -/
def b162 : Ss := (.cons (.expr (.call 28 22 (.cons (.var 1) .nil) .nil))
    (.cons (.expr (.call 29 42 (.cons (.var 1) (.cons (.var 2) .nil)) .nil))
    (.cons (.par [4, 5] (.cons (.att (.var 1) "known") (.cons .bad .nil)))
    (.cons (.ife (.cmp .NotIn (.tup (.cons (.call 33 35 (.cons (.var 1) .nil) .nil) (.cons (.cbl false) .nil))) (.var 5)) (.cons (.ret (.cbl false))
    .nil) .nil)
    (.cons (.for (.name 3) (.of (.att (.var 0) "ledgers")) b162_2)
    (.cons (.ret (.cbl true))
    .nil))))))
/-- keeping.Lost.__init__: 0 self 1 run; HOLES: call super().__init__ -/
def b163 : Ss := (.cons (.expr .bad)
    .nil)
/-- keeping.Lost.__eq__: 0 self 1 other -/
def b164 : Ss := (.cons (.ret (.and (.isO (.var 1) 21) (.cmp .Eq (.att (.var 0) "run") (.att (.var 1) "run"))))
    .nil)
/-- keeping.Lost.words: 0 self -/
def b165 : Ss := (.cons (.ret (.cstr "lost"))
    .nil)
/-- keeping.Lost.many: 0 self; HOLES: call super().many -/
def b166 : Ss := (.cons (.ret .bad)
    .nil)
def b167_1 : Ss := (.cons (.ife (.not (.call 39 29 (.cons (.var 1) (.cons (.sub (.var 3) (.cint 0)) (.cons (.var 5) .nil))) .nil)) (.cons (.ret (.cbl false))
    .nil) .nil)
    (.cons (.asg (.name 3) (.call 50 34 (.cons (.var 1) (.cons (.var 2) (.cons (.var 3) (.cons (.var 5) .nil)))) .nil))
    (.cons (.ife (.cmp .Is (.var 3) .cnon) (.cons (.ret (.cmp .Eq (.var 4) (.bin .Sub (.blt .len (.cons (.att (.var 0) "run") .nil)) (.cint 1))))
    .nil) .nil)
    .nil)))
/-- keeping.Lost.shows: 0 self 1 plan 2 field 3 ledger 4 at 5 deed -/
def b167 : Ss := (.cons (.expr (.call 28 22 (.cons (.var 1) .nil) .nil))
    (.cons (.expr (.call 29 42 (.cons (.var 1) (.cons (.var 2) .nil)) .nil))
    (.cons (.asg (.name 3) (.tup (.cons (.call 33 35 (.cons (.var 1) .nil) .nil) (.cons (.cbl false) .nil))))
    (.cons (.for (.tup [4, 5]) (.enum (.att (.var 0) "run")) b167_1)
    (.cons (.ret (.cbl false))
    .nil)))))
/-- alike.Same.__init__: 0 self 1 pairs -/
def b168 : Ss := (.cons (.fset (.var 0) "pairs" (.blt .list (.cons (.var 1) .nil)))
    .nil)
/-- alike.Same.__eq__: 0 self 1 other -/
def b169 : Ss := (.cons (.ret (.and (.isO (.var 1) 22) (.cmp .Eq (.att (.var 0) "pairs") (.att (.var 1) "pairs"))))
    .nil)
/-- alike.Same.words: 0 self -/
def b170 : Ss := (.cons (.ret (.cstr "same"))
    .nil)
def b171_1 : Ss := (.cons (.asg (.name 7) (.tup (.cons (.call 42 28 (.cons (.var 1) (.cons (.sub (.var 3) (.cint 0)) (.cons (.var 6) .nil))) .nil) (.cons (.call 42 28 (.cons (.var 2) (.cons (.sub (.var 3) (.cint 1)) (.cons (.var 6) .nil))) .nil) .nil))))
    (.cons (.ife (.cmp .NotIn (.call 60 45 (.cons (.var 4) (.cons (.var 7) .nil)) .nil) (.var 5)) (.cons (.ret (.cbl false))
    .nil) .nil)
    .nil))
def b171_2 : Ss := (.cons (.ife (.or (.not (.call 31 21 (.cons (.var 1) (.cons (.sub (.var 3) (.cint 0)) .nil)) .nil)) (.or (.not (.call 31 21 (.cons (.var 2) (.cons (.sub (.var 3) (.cint 1)) .nil)) .nil)) (.cmp .NotEq (.call 60 45 (.cons (.var 4) (.cons (.var 3) .nil)) .nil) (.var 3)))) (.cons (.ret (.cbl false))
    .nil) .nil)
    (.cons (.ife (.or (.cmp .NotEq (.slc (.sub (.var 3) (.cint 0)) .no (.cint 2)) (.slc (.sub (.var 3) (.cint 1)) .no (.cint 2))) (.not (.call 62 46 (.cons (.var 1) (.cons (.var 2) (.cons (.var 3) .nil))) .nil))) (.cons (.ret (.cbl false))
    .nil) .nil)
    (.cons (.for (.name 6) (.of (.call 61 44 (.cons (.var 1) (.cons (.var 4) (.cons (.var 3) .nil))) .nil)) b171_1)
    .nil)))
/-- alike.Same.shows: 0 self 1 one 2 other 3 pair 4 known 5 rows 6 deed 7 later; HOLES: DictComp {pair: True for pair in self.pairs} -/
def b171 : Ss := (.cons (.expr (.call 57 53 (.cons (.var 1) (.cons (.var 2) .nil)) .nil))
    (.cons (.par [4, 5] (.cons (.call 58 47 (.cons (.var 1) (.cons (.var 2) .nil)) .nil) (.cons .bad .nil)))
    (.cons (.ife (.cmp .NotIn (.tup (.cons (.call 33 35 (.cons (.var 1) .nil) .nil) (.cons (.call 33 35 (.cons (.var 2) .nil) .nil) .nil))) (.var 5)) (.cons (.ret (.cbl false))
    .nil) .nil)
    (.cons (.for (.name 3) (.of (.att (.var 0) "pairs")) b171_2)
    (.cons (.ret (.cbl true))
    .nil)))))
/-- alike.Parted.__init__: 0 self 1 run; HOLES: call super().__init__ -/
def b172 : Ss := (.cons (.expr .bad)
    .nil)
/-- alike.Parted.__eq__: 0 self 1 other -/
def b173 : Ss := (.cons (.ret (.and (.isO (.var 1) 23) (.cmp .Eq (.att (.var 0) "run") (.att (.var 1) "run"))))
    .nil)
/-- alike.Parted.words: 0 self -/
def b174 : Ss := (.cons (.ret (.cstr "parted"))
    .nil)
/-- alike.Parted.many: 0 self; HOLES: call super().many -/
def b175 : Ss := (.cons (.ret .bad)
    .nil)
def b176_1 : Ss := (.cons (.ife (.or (.not (.call 39 29 (.cons (.var 1) (.cons (.sub (.var 3) (.cint 0)) (.cons (.var 4) .nil))) .nil)) (.not (.call 39 29 (.cons (.var 2) (.cons (.sub (.var 3) (.cint 1)) (.cons (.var 4) .nil))) .nil))) (.cons (.ret (.cbl false))
    .nil) .nil)
    (.cons (.asg (.name 3) (.tup (.cons (.call 42 28 (.cons (.var 1) (.cons (.sub (.var 3) (.cint 0)) (.cons (.var 4) .nil))) .nil) (.cons (.call 42 28 (.cons (.var 2) (.cons (.sub (.var 3) (.cint 1)) (.cons (.var 4) .nil))) .nil) .nil))))
    .nil))
/-- alike.Parted.shows: 0 self 1 one 2 other 3 pair 4 deed -/
def b176 : Ss := (.cons (.expr (.call 57 53 (.cons (.var 1) (.cons (.var 2) .nil)) .nil))
    (.cons (.asg (.name 3) (.tup (.cons (.call 33 35 (.cons (.var 1) .nil) .nil) (.cons (.call 33 35 (.cons (.var 2) .nil) .nil) .nil))))
    (.cons (.for (.name 4) (.of (.att (.var 0) "run")) b176_1)
    (.cons (.ret (.not (.call 62 46 (.cons (.var 1) (.cons (.var 2) (.cons (.var 3) .nil))) .nil)))
    .nil))))
/-- weighing.Fewest.__init__: 0 self 1 kept 2 scenes; HOLES: call dict -/
def b177 : Ss := (.cons (.fset (.var 0) "kept" (.var 1))
    (.cons (.fset (.var 0) "against" .bad)
    .nil))
/-- weighing.Fewest.__eq__: 0 self 1 other -/
def b178 : Ss := (.cons (.ret (.and (.isO (.var 1) 24) (.and (.cmp .Eq (.att (.var 0) "kept") (.att (.var 1) "kept")) (.cmp .Eq (.att (.var 0) "against") (.att (.var 1) "against")))))
    .nil)
/-- weighing.Fewest.words: 0 self -/
def b179 : Ss := (.cons (.ret (.cstr "fewest"))
    .nil)
def b180_1 : Ss := (.cons (.asg (.name 4) (.sub (.att (.var 0) "against") (.var 3)))
    (.cons (.ife (.or (.cmp .Lt (.blt .len (.cons (.sub (.var 4) (.cint 0)) .nil)) (.att (.var 1) "width")) (.not (.call 80 100 (.cons (.att (.var 1) "form") (.cons (.var 4) (.cons (.var 3) .nil))) .nil))) (.cons (.ret (.cbl false))
    .nil) .nil)
    .nil))
/-- weighing.Fewest.shows: 0 self 1 ladder 2 fewer 3 some 4 scene -/
def b180 : Ss := (.cons (.expr (.call 69 54 (.cons (.var 1) .nil) .nil))
    (.cons (.ife (.or (.not (.call 76 57 (.cons (.att (.var 0) "kept") (.cons (.att (.var 1) "width") .nil)) .nil)) (.cmp .IsNot (.call 79 61 (.cons (.att (.var 1) "form") (.cons (.att (.var 0) "kept") .nil)) .nil) .cnon)) (.cons (.ret (.cbl false))
    .nil) .nil)
    (.cons (.asg (.name 2) (.lc false [3] (.name 3) (.of (.call 77 59 (.cons (.att (.var 1) "width") .nil) .nil)) (.cons (.cmp .Lt (.blt .len (.cons (.var 3) .nil)) (.blt .len (.cons (.att (.var 0) "kept") .nil))) .nil) (.var 3)))
    (.cons (.ife (.or (.cmp .NotEq (.blt .len (.cons (.att (.var 0) "against") .nil)) (.blt .len (.cons (.var 2) .nil))) (.not (.blt .all (.cons (.lc false [3] (.name 3) (.of (.var 2)) .nil (.cmp .In (.var 3) (.att (.var 0) "against"))) .nil)))) (.cons (.ret (.cbl false))
    .nil) .nil)
    (.cons (.for (.name 3) (.of (.var 2)) b180_1)
    (.cons (.ret (.cbl true))
    .nil))))))
/-- orders.Steady.__init__: 0 self 1 pairs -/
def b181 : Ss := (.cons (.fset (.var 0) "pairs" (.blt .list (.cons (.var 1) .nil)))
    .nil)
/-- orders.Steady.__eq__: 0 self 1 other -/
def b182 : Ss := (.cons (.ret (.and (.isO (.var 1) 25) (.cmp .Eq (.att (.var 0) "pairs") (.att (.var 1) "pairs"))))
    .nil)
/-- orders.Steady.words: 0 self -/
def b183 : Ss := (.cons (.ret (.cstr "steady"))
    .nil)
/-- orders.Steady.shows: 0 self 1 plan 2 known 3 rows 4 pair; HOLES: DictComp {pair: True for pair in self.pairs} -/
def b184 : Ss := (.cons (.expr (.call 28 22 (.cons (.var 1) .nil) .nil))
    (.cons (.asg (.tup [2, 3]) (.tup (.cons (.att (.var 1) "known") (.cons .bad .nil))))
    (.cons (.ife (.cmp .NotIn (.tup (.cons (.call 33 35 (.cons (.var 1) .nil) .nil) (.cons (.call 33 35 (.cons (.var 1) .nil) .nil) .nil))) (.var 3)) (.cons (.ret (.cbl false))
    .nil) .nil)
    (.cons (.ret (.blt .all (.cons (.lc false [4] (.name 4) (.of (.att (.var 0) "pairs")) .nil (.call 91 101 (.cons (.var 1) (.cons (.var 2) (.cons (.var 4) (.cons (.var 3) .nil)))) .nil)) .nil)))
    .nil))))
/-- orders.Unsteady.__init__: 0 self 1 run 2 tells 3 rest; HOLES: call super().__init__ -/
def b185 : Ss := (.cons (.expr .bad)
    (.cons (.fset (.var 0) "tells" (.var 2))
    (.cons (.fset (.var 0) "rest" (.blt .list (.cons (.var 3) .nil)))
    .nil)))
/-- orders.Unsteady.__eq__: 0 self 1 other -/
def b186 : Ss := (.cons (.ife (.not (.isO (.var 1) 26)) (.cons (.ret (.cbl false))
    .nil) .nil)
    (.cons (.ret (.and (.cmp .Eq (.att (.var 0) "run") (.att (.var 1) "run")) (.and (.cmp .Eq (.att (.var 0) "tells") (.att (.var 1) "tells")) (.cmp .Eq (.att (.var 0) "rest") (.att (.var 1) "rest")))))
    .nil))
/-- orders.Unsteady.words: 0 self -/
def b187 : Ss := (.cons (.ret (.cstr "unsteady"))
    .nil)
/-- orders.Unsteady.many: 0 self; HOLES: call super().many -/
def b188 : Ss := (.cons (.ret .bad)
    .nil)
/-- orders.Unsteady.shows: 0 self 1 plan 2 one 3 other 4 first 5 last -/
def b189 : Ss := (.cons (.expr (.call 28 22 (.cons (.var 1) .nil) .nil))
    (.cons (.asg (.tup [4, 5]) (.att (.var 0) "tells"))
    (.cons (.ife (.not (.call 92 102 (.cons (.var 1) (.cons (.var 4) (.cons (.var 5) .nil))) .nil)) (.cons (.ret (.cbl false))
    .nil) .nil)
    (.cons (.asg (.name 2) (.call 47 32 (.cons (.var 1) (.cons (.call 33 35 (.cons (.var 1) .nil) .nil) (.cons (.lst false (.star (.att (.var 0) "run") (.cons (.var 4) (.cons (.var 5) (.star (.att (.var 0) "rest") .nil))))) .nil))) .nil))
    (.cons (.asg (.name 3) (.call 47 32 (.cons (.var 1) (.cons (.call 33 35 (.cons (.var 1) .nil) .nil) (.cons (.lst false (.star (.att (.var 0) "run") (.cons (.var 5) (.cons (.var 4) (.star (.att (.var 0) "rest") .nil))))) .nil))) .nil))
    (.cons (.ret (.and (.cmp .IsNot (.var 2) .cnon) (.and (.cmp .IsNot (.var 3) .cnon) (.not (.call 62 46 (.cons (.var 1) (.cons (.var 1) (.cons (.tup (.cons (.sub (.var 2) (.neg (.cint 1))) (.cons (.sub (.var 3) (.neg (.cint 1))) .nil))) .nil))) .nil)))))
    .nil))))))
/-- wishes.Enough.__init__: 0 self 1 deeds 2 marks 3 state; HOLES: DictComp {state: marks[state] for state in marks} -/
def b190 : Ss := (.cons (.fset (.var 0) "deeds" (.blt .list (.cons (.var 1) .nil)))
    (.cons (.fset (.var 0) "marks" .bad)
    .nil))
/-- wishes.Enough.__eq__: 0 self 1 other -/
def b191 : Ss := (.cons (.ret (.and (.isO (.var 1) 27) (.and (.cmp .Eq (.att (.var 0) "deeds") (.att (.var 1) "deeds")) (.cmp .Eq (.att (.var 0) "marks") (.att (.var 1) "marks")))))
    .nil)
/-- wishes.Enough.words: 0 self -/
def b192 : Ss := (.cons (.ret (.cstr "enough"))
    .nil)
def b193_1 : Ss := (.cons (.ife (.or (.not (.call 39 29 (.cons (.var 1) (.cons (.var 4) (.cons (.var 5) .nil))) .nil)) (.cmp .NotIn (.sub (.var 5) (.cint 0)) (.glo 4))) (.cons (.ret (.cbl false))
    .nil) .nil)
    (.cons (.asg (.name 4) (.call 42 28 (.cons (.var 1) (.cons (.var 4) (.cons (.var 5) .nil))) .nil))
    .nil))
/-- wishes.Enough.shows: 0 self 1 plan 2 state 3 wish 4 last 5 deed 6 one -/
def b193 : Ss := (.cons (.expr (.call 97 78 (.cons (.var 1) (.cons (.var 2) (.cons (.var 3) .nil))) .nil))
    (.cons (.asg (.name 4) (.var 2))
    (.cons (.for (.name 5) (.of (.att (.var 0) "deeds")) b193_1)
    (.cons (.ife (.not (.call 98 75 (.cons (.var 1) (.cons (.var 4) (.cons (.var 3) .nil))) .nil)) (.cons (.ret (.cbl false))
    .nil) .nil)
    (.cons (.ife (.and (.att (.var 0) "deeds") (.or (.cmp .NotIn (.var 2) (.att (.var 0) "marks")) (.cmp .NotEq (.sub (.att (.var 0) "marks") (.var 2)) (.blt .len (.cons (.att (.var 0) "deeds") .nil))))) (.cons (.ret (.cbl false))
    .nil) .nil)
    (.cons (.ret (.blt .all (.cons (.lc false [6] (.name 6) (.of (.att (.var 0) "marks")) .nil (.call 101 103 (.cons (.var 1) (.cons (.var 3) (.cons (.att (.var 0) "marks") (.cons (.var 6) .nil)))) .nil)) .nil)))
    .nil))))))
/-- desks.Desk.__init__: 0 self 1 sources -/
def b194 : Ss := (.cons (.ife (.not (.call 24 99 (.cons (.var 1) .nil) .nil)) (.cons (.raise 1)
    .nil) .nil)
    (.cons (.fset (.var 0) "sources" (.var 1))
    (.cons (.fset (.var 0) "now" (.tup (.cons (.bin .Mult (.tup (.cons .cnon .nil)) (.var 1)) (.cons (.tup .nil) (.cons (.tup .nil) .nil)))))
    (.cons (.fset (.var 0) "past" (.tup .nil))
    (.cons (.fset (.var 0) "floor" (.cint 0))
    (.cons (.fset (.var 0) "tokens" (.cint 0))
    .nil))))))
/-- desks.Desk.__iter__: 0 self; HOLES: raise TypeError('a desk has no rows') -/
def b195 : Ss := (.cons .never
    .nil)
/-- desks.Desk.__len__: 0 self -/
def b196 : Ss := (.cons (.ret (.blt .len (.cons (.sub (.att (.var 0) "now") (.cint 2)) .nil)))
    .nil)
/-- desks.Desk.__getitem__: 0 self 1 source -/
def b197 : Ss := (.cons (.ife (.not (.call 1 1 (.cons (.var 1) (.cons (.att (.var 0) "sources") .nil)) .nil)) (.cons (.raise 1)
    .nil) .nil)
    (.cons (.ret (.sub (.sub (.att (.var 0) "now") (.cint 0)) (.var 1)))
    .nil))
/-- desks.Desk.__setitem__: 0 self 1 source 2 value 3 deed 4 rows 5 contents 6 order 7 token 8 plan 9 state; HOLES: call self.step -/
def b198 : Ss := (.cons (.ife (.not (.call 1 1 (.cons (.var 1) (.cons (.att (.var 0) "sources") .nil)) .nil)) (.cons (.raise 1)
    .nil) .nil)
    (.cons (.ife (.and (.cmp .IsNot (.var 2) .cnon) (.not (.call 0 0 (.cons (.var 2) .nil) .nil))) (.cons (.raise 2)
    .nil) .nil)
    (.cons (.asg (.name 3) (.tup (.cons (.cstr "tell") (.cons (.var 1) (.cons (.var 2) .nil)))))
    (.cons (.asg (.tup [5, 6]) (.call 40 27 (.cons (.att (.var 0) "now") (.cons (.var 3) .nil)) .nil))
    (.cons (.asg (.name 4) (.lc false [7, 8, 9] (.tup [7, 8, 9]) (.of (.sub (.att (.var 0) "now") (.cint 2))) .nil (.tup (.cons (.var 7) (.cons (.var 8) (.cons (.call 42 28 (.cons (.var 8) (.cons (.var 9) (.cons (.var 3) .nil))) .nil) .nil))))))
    (.cons (.expr .bad)
    .nil))))))
/-- desks.Desk.step: 0 self 1 step 2 later -/
def b199 : Ss := (.cons (.fset (.var 0) "past" (.tup (.star (.att (.var 0) "past") (.cons (.tup (.cons (.var 1) (.cons (.att (.var 0) "now") .nil))) .nil))))
    (.cons (.fset (.var 0) "now" (.var 2))
    .nil))
/-- desks.Desk.scene: 0 self -/
def b200 : Ss := (.cons (.ret (.tup (.cons (.sub (.att (.var 0) "now") (.cint 0)) (.cons (.sub (.att (.var 0) "now") (.cint 1)) .nil))))
    .nil)
/-- desks.Desk.add: 0 self 1 plan 2 state 3 contents 4 order 5 rows; HOLES: call self.step; AugAssign self.tokens += 1; raise BadPlan('SOURCES') -/
def b201 : Ss := (.cons (.expr (.call 28 22 (.cons (.var 1) .nil) .nil))
    (.cons (.ife (.cmp .NotEq (.att (.var 1) "sources") (.att (.var 0) "sources")) (.cons .never
    .nil) .nil)
    (.cons (.asg (.tup [3, 4, 5]) (.att (.var 0) "now"))
    (.cons (.asg (.name 2) (.tup (.cons (.var 3) (.cons (.var 4) (.star (.slc (.call 33 35 (.cons (.var 1) .nil) .nil) (.cint 2) .no) .nil)))))
    (.cons .never
    (.cons (.expr .bad)
    (.cons (.ret (.new 29 104 (.cons (.var 0) (.cons (.att (.var 0) "tokens") .nil)) .nil))
    .nil)))))))
/-- desks.Desk.forms: 0 self 1 row -/
def b202 : Ss := (.cons (.ret (.lc false [1] (.name 1) (.of (.sub (.att (.var 0) "now") (.cint 2))) .nil (.new 29 104 (.cons (.var 0) (.cons (.sub (.var 1) (.cint 0)) .nil)) .nil)))
    .nil)
/-- desks.Desk.journal: 0 self 1 pair -/
def b203 : Ss := (.cons (.ret (.lc false [1] (.name 1) (.of (.att (.var 0) "past")) .nil (.sub (.var 1) (.cint 0))))
    .nil)
/-- desks.Desk.undo: 0 self 1 step 2 before; HOLES: target (self.past, self.now) -/
def b204 : Ss := (.cons (.ife (.cmp .Eq (.blt .len (.cons (.att (.var 0) "past") .nil)) (.att (.var 0) "floor")) (.cons (.raise 14)
    .nil) .nil)
    (.cons (.asg (.tup [1, 2]) (.sub (.att (.var 0) "past") (.neg (.cint 1))))
    (.cons .never
    (.cons (.ret (.var 1))
    .nil))))
/-- desks.Desk.branch: 0 self 1 other; HOLES: target (other.now, other.past, other.tokens) -/
def b205 : Ss := (.cons (.asg (.name 1) (.new 28 105 (.cons (.att (.var 0) "sources") .nil) .nil))
    (.cons .never
    (.cons (.ret (.var 1))
    .nil)))
/-- desks.Desk.attempt: 0 self 1 work 2 now 3 past 4 floor; HOLES: try  finally -/
def b206 : Ss := (.cons (.par [2, 3, 4] (.cons (.att (.var 0) "now") (.cons (.att (.var 0) "past") (.cons (.att (.var 0) "floor") .nil))))
    (.cons (.fset (.var 0) "floor" (.blt .len (.cons (.var 3) .nil)))
    (.cons .never
    .nil)))
def b207_1 : Ss := (.cons (.ife (.cmp .Eq (.sub (.var 3) (.cint 0)) (.var 1)) (.cons (.ret (.var 2))
    .nil) .nil)
    .nil)
/-- desks.Desk.spot: 0 self 1 token 2 at 3 row -/
def b207 : Ss := (.cons (.for (.tup [2, 3]) (.enum (.sub (.att (.var 0) "now") (.cint 2))) b207_1)
    (.cons (.raise 13)
    .nil))
/-- desks.Desk.do: 0 self 1 token 2 deed 3 at 4 row 5 contents 6 order 7 rows 8 plan 9 state; HOLES: call self.step; call self.spot -/
def b208 : Ss := (.cons (.asg (.name 3) .bad)
    (.cons (.asg (.tup [5, 6, 7]) (.att (.var 0) "now"))
    (.cons (.par [8, 9] (.cons (.sub (.sub (.var 7) (.var 3)) (.cint 1)) (.cons (.sub (.sub (.var 7) (.var 3)) (.cint 2)) .nil)))
    (.cons (.asg (.name 4) (.tup (.cons (.var 1) (.cons (.var 8) (.cons (.call 42 28 (.cons (.var 8) (.cons (.var 9) (.cons (.var 2) .nil))) .nil) .nil)))))
    (.cons (.expr .bad)
    .nil)))))
/-- desks.Form.__init__: 0 self 1 desk 2 token -/
def b209 : Ss := (.cons (.fset (.var 0) "desk" (.var 1))
    (.cons (.fset (.var 0) "token" (.var 2))
    .nil))
/-- desks.Form.both: 0 self; HOLES: call self.desk.spot -/
def b210 : Ss := (.cons (.ret (.slc (.sub (.sub (.att (.att (.var 0) "desk") "now") (.cint 2)) .bad) (.cint 1) .no))
    .nil)
/-- desks.Form.checked: 0 self 1 field 2 plan 3 state; HOLES: call self.both -/
def b211 : Ss := (.cons (.asg (.tup [2, 3]) .bad)
    (.cons (.expr (.call 29 42 (.cons (.var 2) (.cons (.var 1) .nil)) .nil))
    (.cons (.ret (.tup (.cons (.var 2) (.cons (.var 3) .nil))))
    .nil)))
/-- desks.Form.__iter__: 0 self; HOLES: raise TypeError('a form has no rows') -/
def b212 : Ss := (.cons .never
    .nil)
/-- desks.Form.__len__: 0 self; HOLES: call self.both -/
def b213 : Ss := (.cons (.ret (.blt .len (.cons (.sub .bad (.cint 0)) .nil)))
    .nil)
/-- desks.Form.__getitem__: 0 self 1 field 2 plan 3 state; HOLES: call self.checked -/
def b214 : Ss := (.cons (.asg (.tup [2, 3]) .bad)
    (.cons (.ret (.sub (.call 34 23 (.cons (.var 2) (.cons (.var 3) .nil)) .nil) (.var 1)))
    .nil))
/-- desks.Form.__setitem__: 0 self 1 field 2 value; HOLES: call self.desk.do; call self.checked -/
def b215 : Ss := (.cons (.expr .bad)
    (.cons (.ife (.not (.call 0 0 (.cons (.var 2) .nil) .nil)) (.cons (.raise 2)
    .nil) .nil)
    (.cons (.expr .bad)
    .nil)))
def b216_1 : Ss := (.cons (.ife (.cmp .In (.var 3) (.var 1)) (.cons (.expr .bad)
    .nil) .nil)
    .nil)
/-- desks.Form.__iadd__: 0 self 1 pairs 2 plan 3 field; HOLES: call self.desk.do; call self.both -/
def b216 : Ss := (.cons (.asg (.name 2) (.sub .bad (.cint 0)))
    (.cons (.ife (.not (.call 105 106 (.cons (.var 2) (.cons (.var 1) .nil)) .nil)) (.cons (.raise 11)
    .nil) .nil)
    (.cons (.for (.name 3) (.rng (.cons (.olen (.var 2)) .nil)) b216_1)
    (.cons (.ret (.var 0))
    .nil))))
def b217_1 : Ss := (.cons (.expr .bad)
    .nil)
/-- desks.Form.__isub__: 0 self 1 fields 2 plan 3 field; HOLES: call self.desk.do; call self.both -/
def b217 : Ss := (.cons (.asg (.name 2) (.sub .bad (.cint 0)))
    (.cons (.ife (.not (.call 106 107 (.cons (.var 2) (.cons (.var 1) .nil)) .nil)) (.cons (.raise 11)
    .nil) .nil)
    (.cons (.for (.name 3) (.of (.blt .list (.cons (.var 1) .nil))) b217_1)
    (.cons (.ret (.var 0))
    .nil))))
/-- desks.Form.answer: 0 self 1 word 2 field 3 plan 4 state; HOLES: call self.desk.do; call self.checked -/
def b218 : Ss := (.cons (.asg (.tup [3, 4]) .bad)
    (.cons (.ife (.cmp .NotIn (.var 2) (.sub (.var 4) (.cint 3))) (.cons (.raise 12)
    .nil) .nil)
    (.cons (.expr .bad)
    (.cons (.ret (.sub (.var 0) (.var 2)))
    .nil))))
/-- desks.Form.hold: 0 self 1 field; HOLES: call self.answer -/
def b219 : Ss := (.cons (.ret .bad)
    .nil)
/-- desks.Form.take: 0 self 1 field; HOLES: call self.answer -/
def b220 : Ss := (.cons (.ret .bad)
    .nil)
/-- desks.Form.state: 0 self; HOLES: call self.both -/
def b221 : Ss := (.cons (.ret (.sub .bad (.cint 1)))
    .nil)
/-- desks.Form.plan: 0 self; HOLES: call self.both -/
def b222 : Ss := (.cons (.ret (.sub .bad (.cint 0)))
    .nil)
/-- desks.Form.number: 0 self; HOLES: call self.desk.spot -/
def b223 : Ss := (.cons (.ret .bad)
    .nil)
/-- desks.Form.asked: 0 self; HOLES: call self.both -/
def b224 : Ss := (.cons (.ret (.blt .list (.cons (.sub (.sub .bad (.cint 1)) (.cint 3)) .nil)))
    .nil)
/-- desks.Form.cell: 0 self 1 field; HOLES: call self.checked -/
def b225 : Ss := (.cons (.expr .bad)
    (.cons (.ret (.new 30 108 (.cons (.var 0) (.cons (.var 1) .nil)) .nil))
    .nil))
/-- desks.Cell.__init__: 0 self 1 form 2 field -/
def b226 : Ss := (.cons (.fset (.var 0) "sheet" (.var 1))
    (.cons (.fset (.var 0) "place" (.var 2))
    .nil))
/-- desks.Cell.__call__: 0 self -/
def b227 : Ss := (.cons (.ret (.att (.var 0) "value"))
    .nil)
/-- desks.Cell.value: 0 self 1 plan 2 state; HOLES: call self.sheet.both -/
def b228 : Ss := (.cons (.asg (.tup [1, 2]) .bad)
    (.cons (.ret (.sub (.call 34 23 (.cons (.var 1) (.cons (.var 2) .nil)) .nil) (.att (.var 0) "place")))
    .nil))
/-- desks.Cell.origin: 0 self 1 plan 2 state; HOLES: call self.sheet.both -/
def b229 : Ss := (.cons (.asg (.tup [1, 2]) .bad)
    (.cons (.ret (.sub (.call 36 109 (.cons (.var 1) (.cons (.var 2) .nil)) .nil) (.att (.var 0) "place")))
    .nil))
/-- desks.Cell.is_asked: 0 self; HOLES: call self.sheet.both -/
def b230 : Ss := (.cons (.ret (.cmp .In (.att (.var 0) "place") (.sub (.sub .bad (.cint 1)) (.cint 3))))
    .nil)
/-- desks.Cell.put: 0 self 1 value; HOLES: call self.sheet.desk.do; call self.sheet.both -/
def b231 : Ss := (.cons (.expr .bad)
    (.cons (.ife (.not (.call 0 0 (.cons (.var 1) .nil) .nil)) (.cons (.raise 2)
    .nil) .nil)
    (.cons (.expr .bad)
    (.cons (.ret (.att (.var 0) "value"))
    .nil))))
/-- desks.Cell.reset: 0 self; HOLES: call self.sheet.desk.do; call self.sheet.both -/
def b232 : Ss := (.cons (.expr .bad)
    (.cons (.expr .bad)
    (.cons (.ret (.att (.var 0) "value"))
    .nil)))
def fns : List Fn := [⟨1, 1, b0⟩, ⟨2, 2, b1⟩, ⟨2, 3, b2⟩, ⟨2, 5, b3⟩, ⟨2, 3, b4⟩, ⟨2, 3, b5⟩, ⟨2, 6, b6⟩, ⟨2, 3, b7⟩, ⟨3, 9, b8⟩, ⟨1, 5, b9⟩, ⟨1, 3, b10⟩, ⟨2, 8, b11⟩, ⟨1, 3, b12⟩, ⟨2, 2, b13⟩, ⟨2, 2, b14⟩, ⟨1, 1, b15⟩, ⟨2, 2, b16⟩, ⟨3, 7, b17⟩, ⟨3, 4, b18⟩, ⟨1, 3, b19⟩, ⟨1, 5, b20⟩, ⟨2, 2, b21⟩, ⟨2, 5, b22⟩, ⟨1, 1, b23⟩, ⟨1, 1, b24⟩, ⟨2, 3, b25⟩, ⟨2, 3, b26⟩, ⟨2, 6, b27⟩, ⟨1, 1, b28⟩, ⟨2, 2, b29⟩, ⟨3, 4, b30⟩, ⟨2, 13, b31⟩, ⟨2, 2, b32⟩, ⟨1, 1, b33⟩, ⟨2, 5, b34⟩, ⟨2, 2, b35⟩, ⟨2, 6, b36⟩, ⟨2, 7, b37⟩, ⟨2, 2, b38⟩, ⟨3, 3, b39⟩, ⟨2, 8, b40⟩, ⟨2, 2, b41⟩, ⟨3, 16, b42⟩, ⟨3, 3, b43⟩, ⟨2, 4, b44⟩, ⟨0, 0, .cons .never .nil⟩, ⟨2, 3, b46⟩, ⟨3, 5, b47⟩, ⟨3, 4, b48⟩, ⟨3, 7, b49⟩, ⟨4, 7, b50⟩, ⟨3, 3, b51⟩, ⟨2, 12, b52⟩, ⟨3, 5, b53⟩, ⟨2, 6, b54⟩, ⟨2, 4, b55⟩, ⟨2, 4, b56⟩, ⟨2, 2, b57⟩, ⟨2, 3, b58⟩, ⟨1, 1, b59⟩, ⟨2, 8, b60⟩, ⟨3, 3, b61⟩, ⟨3, 3, b62⟩, ⟨2, 11, b63⟩, ⟨2, 4, b64⟩, ⟨3, 7, b65⟩, ⟨2, 4, b66⟩, ⟨2, 4, b67⟩, ⟨1, 1, b68⟩, ⟨1, 1, b69⟩, ⟨2, 3, b70⟩, ⟨2, 4, b71⟩, ⟨1, 5, b72⟩, ⟨1, 5, b73⟩, ⟨2, 5, b74⟩, ⟨3, 5, b75⟩, ⟨2, 4, b76⟩, ⟨1, 6, b77⟩, ⟨1, 5, b78⟩, ⟨2, 5, b79⟩, ⟨3, 5, b80⟩, ⟨1, 5, b81⟩, ⟨3, 9, b82⟩, ⟨3, 6, b83⟩, ⟨1, 10, b84⟩, ⟨3, 6, b85⟩, ⟨3, 6, b86⟩, ⟨4, 7, b87⟩, ⟨2, 12, b88⟩, ⟨4, 9, b89⟩, ⟨4, 13, b90⟩, ⟨4, 11, b91⟩, ⟨3, 3, b92⟩, ⟨1, 6, b93⟩, ⟨1, 1, b94⟩, ⟨1, 5, b95⟩, ⟨2, 2, b96⟩, ⟨3, 3, b97⟩, ⟨3, 6, b98⟩, ⟨3, 4, b99⟩, ⟨3, 11, b100⟩, ⟨4, 7, b101⟩, ⟨3, 11, b102⟩, ⟨3, 3, b103⟩, ⟨3, 3, b104⟩, ⟨2, 4, b105⟩, ⟨2, 3, b106⟩, ⟨1, 1, b107⟩, ⟨1, 1, b108⟩, ⟨1, 3, b109⟩, ⟨1, 2, b110⟩, ⟨1, 4, b111⟩, ⟨2, 6, b112⟩, ⟨1, 2, b113⟩, ⟨1, 2, b114⟩, ⟨1, 7, b115⟩, ⟨1, 2, b116⟩, ⟨3, 7, b117⟩, ⟨1, 10, b118⟩, ⟨1, 2, b119⟩, ⟨2, 3, b120⟩, ⟨1, 4, b121⟩, ⟨2, 9, b122⟩, ⟨2, 9, b123⟩, ⟨2, 2, b124⟩, ⟨2, 2, b125⟩, ⟨1, 1, b126⟩, ⟨2, 2, b127⟩, ⟨1, 1, b128⟩, ⟨2, 2, b129⟩, ⟨2, 2, b130⟩, ⟨2, 2, b131⟩, ⟨0, 0, .cons .never .nil⟩, ⟨1, 1, b133⟩, ⟨1, 1, b134⟩, ⟨2, 2, b135⟩, ⟨1, 1, b136⟩, ⟨1, 2, b137⟩, ⟨2, 2, b138⟩, ⟨3, 3, b139⟩, ⟨2, 2, b140⟩, ⟨2, 2, b141⟩, ⟨2, 2, b142⟩, ⟨2, 2, b143⟩, ⟨2, 2, b144⟩, ⟨2, 2, b145⟩, ⟨2, 2, b146⟩, ⟨2, 2, b147⟩, ⟨2, 2, b148⟩, ⟨2, 2, b149⟩, ⟨2, 2, b150⟩, ⟨2, 2, b151⟩, ⟨2, 2, b152⟩, ⟨2, 2, b153⟩, ⟨5, 5, b154⟩, ⟨1, 2, b155⟩, ⟨2, 2, b156⟩, ⟨1, 1, b157⟩, ⟨1, 2, b158⟩, ⟨2, 2, b159⟩, ⟨2, 2, b160⟩, ⟨1, 1, b161⟩, ⟨3, 8, b162⟩, ⟨2, 2, b163⟩, ⟨2, 2, b164⟩, ⟨1, 1, b165⟩, ⟨1, 1, b166⟩, ⟨3, 6, b167⟩, ⟨2, 2, b168⟩, ⟨2, 2, b169⟩, ⟨1, 1, b170⟩, ⟨3, 8, b171⟩, ⟨2, 2, b172⟩, ⟨2, 2, b173⟩, ⟨1, 1, b174⟩, ⟨1, 1, b175⟩, ⟨3, 5, b176⟩, ⟨3, 3, b177⟩, ⟨2, 2, b178⟩, ⟨1, 1, b179⟩, ⟨2, 5, b180⟩, ⟨2, 2, b181⟩, ⟨2, 2, b182⟩, ⟨1, 1, b183⟩, ⟨2, 5, b184⟩, ⟨4, 4, b185⟩, ⟨2, 2, b186⟩, ⟨1, 1, b187⟩, ⟨1, 1, b188⟩, ⟨2, 6, b189⟩, ⟨3, 4, b190⟩, ⟨2, 2, b191⟩, ⟨1, 1, b192⟩, ⟨4, 7, b193⟩, ⟨2, 2, b194⟩, ⟨1, 1, b195⟩, ⟨1, 1, b196⟩, ⟨2, 2, b197⟩, ⟨3, 10, b198⟩, ⟨3, 3, b199⟩, ⟨1, 1, b200⟩, ⟨2, 6, b201⟩, ⟨1, 2, b202⟩, ⟨1, 2, b203⟩, ⟨1, 3, b204⟩, ⟨1, 2, b205⟩, ⟨2, 5, b206⟩, ⟨2, 4, b207⟩, ⟨3, 10, b208⟩, ⟨3, 3, b209⟩, ⟨1, 1, b210⟩, ⟨2, 4, b211⟩, ⟨1, 1, b212⟩, ⟨1, 1, b213⟩, ⟨2, 4, b214⟩, ⟨3, 3, b215⟩, ⟨2, 4, b216⟩, ⟨2, 4, b217⟩, ⟨3, 5, b218⟩, ⟨2, 2, b219⟩, ⟨2, 2, b220⟩, ⟨1, 1, b221⟩, ⟨1, 1, b222⟩, ⟨1, 1, b223⟩, ⟨1, 1, b224⟩, ⟨2, 2, b225⟩, ⟨3, 3, b226⟩, ⟨1, 1, b227⟩, ⟨1, 3, b228⟩, ⟨1, 3, b229⟩, ⟨1, 1, b230⟩, ⟨2, 2, b231⟩, ⟨1, 1, b232⟩]
def shs : List (List Sl) := [[.pos 0], [.pos 0, .pos 1], [.pos 0, .pos 1], [.pos 0, .pos 1], [.pos 0, .pos 1], [.pos 0, .pos 1, .pos 2], [.pos 0], [.pos 0], [.pos 0, .pos 1], [.pos 0], [.pos 0, .pos 1], [.pos 0, .pos 1], [.pos 0, .pos 1], [.pos 0], [.pos 0, .pos 1], [.pos 0, .pos 1, .pos 2], [.pos 0], [.pos 0], [.pos 0, .pos 1], [.pos 0, .pos 1, .pos 2], [.pos 0, .pos 1, .pos 2], [.pos 0, .pos 1], [.pos 0], [.pos 0, .pos 1], [.pos 0, .pos 1], [.pos 0, .pos 1], [.pos 0, .pos 1], [.pos 0, .pos 1], [.pos 0, .pos 1, .pos 2], [.pos 0, .pos 1, .pos 2], [.pos 0, .pos 1, .pos 2, .pos 3], [.pos 0, .pos 1], [.pos 0, .pos 1, .pos 2], [.pos 0, .pos 1, .pos 2], [.pos 0, .pos 1, .pos 2, .pos 3], [.pos 0], [.pos 0, .pos 1, .pos 2], [.pos 0, .pos 1], [.pos 0, .pos 1], [.pos 0, .pos 1, .pos 2], [.pos 0, .pos 1], [.pos 0, .pos 1], [.pos 0, .pos 1], [.pos 0], [.pos 0, .pos 1, .pos 2], [.pos 0, .pos 1], [.pos 0, .pos 1, .pos 2], [.pos 0, .pos 1], [.pos 0, .pos 1], [.pos 0, .pos 1, .pos 2], [.pos 0, .pos 1], [.pos 0, .pos 1], [.pos 0, .pos 1], [.pos 0, .pos 1], [.pos 0], [.pos 0], [.pos 0, .pos 1], [.pos 0, .pos 1], [.pos 0], [.pos 0], [.pos 0, .pos 1, .pos 2], [.pos 0, .pos 1], [.pos 0, .pos 1, .pos 2], [.pos 0, .pos 1, .pos 2], [.pos 0, .pos 1, .pos 2, .pos 3], [.pos 0, .pos 1, .pos 2], [.pos 0, .pos 1, .pos 2], [.pos 0, .pos 1, .pos 2, .pos 3], [.pos 0, .pos 1, .pos 2, .pos 3], [.pos 0, .pos 1, .pos 2, .pos 3], [.pos 0, .pos 1], [.pos 0, .pos 1], [.pos 0], [.pos 0], [.pos 0, .pos 1, .pos 2], [.pos 0, .pos 1, .pos 2], [.pos 0, .pos 1, .pos 2], [.pos 0, .pos 1, .pos 2], [.pos 0, .pos 1, .pos 2], [.pos 0, .pos 1, .pos 2], [.pos 0], [.pos 0], [.pos 0, .pos 1], [.pos 0], [.pos 0], [.pos 0, .pos 1], [.pos 0, .dfl (.int 0)], [.pos 0], [.pos 0, .pos 1], [.pos 0, .pos 1, .pos 2, .pos 3, .kw 0], [.pos 0, .pos 1, .pos 2], [.pos 0], [.pos 0], [.pos 0, .pos 1], [.pos 0, .dfl (.int 0)], [.pos 0], [.pos 0, .pos 1], [.pos 0, .pos 1], [.pos 0, .pos 1], [.pos 0], [.pos 0, .pos 1, .pos 2], [.pos 0, .pos 1, .pos 2, .pos 3], [.pos 0, .pos 1, .pos 2], [.pos 0, .pos 1, .pos 2, .pos 3], [.pos 0, .pos 1, .pos 2], [.pos 0, .pos 1], [.pos 0, .pos 1], [.pos 0, .pos 1], [.pos 0, .pos 1, .pos 2], [.pos 0, .pos 1]]
def glo : List D := [.int 3, .int 9, .tup [.str "first", .str "both", .str "alone", .str "except", .str "later"], .tup [.str "keep", .str "drop", .str "ask", .str "melt"], .tup [.str "edit", .str "reset", .str "hold", .str "take"], .int 400, .int 400, .int 400, .int 1500, .tup [.str "a", .str "b", .str "c"]]
def cl0 : Cl := ⟨"FillError", none, [], [], [], ["FillError"], true⟩
def cl1 : Cl := ⟨"BadSource", none, [], [], [], ["BadSource", "FillError"], true⟩
def cl2 : Cl := ⟨"BadValue", none, [], [], [], ["BadValue", "FillError"], true⟩
def cl3 : Cl := ⟨"BadScene", none, [], [], [], ["BadScene", "FillError"], true⟩
def cl4 : Cl := ⟨"BadLadder", none, [], [], [], ["BadLadder", "FillError"], true⟩
def cl5 : Cl := ⟨"BadPlan", some 124, [], [], ["part"], ["BadPlan", "FillError"], true⟩
def cl6 : Cl := ⟨"BadState", none, [], [], [], ["BadState", "FillError"], true⟩
def cl7 : Cl := ⟨"BadField", none, [], [], [], ["BadField", "FillError"], true⟩
def cl8 : Cl := ⟨"BadDeed", none, [], [], [], ["BadDeed", "FillError"], true⟩
def cl9 : Cl := ⟨"TooLarge", none, [], [], [], ["TooLarge", "FillError"], true⟩
def cl10 : Cl := ⟨"BadWish", none, [], [], [], ["BadWish", "FillError"], true⟩
def cl11 : Cl := ⟨"BadForm", none, [], [], [], ["BadForm", "FillError"], true⟩
def cl12 : Cl := ⟨"NotAsked", none, [], [], [], ["NotAsked", "FillError"], true⟩
def cl13 : Cl := ⟨"Gone", none, [], [], [], ["Gone", "FillError"], true⟩
def cl14 : Cl := ⟨"NothingDone", none, [], [], [], ["NothingDone", "FillError"], true⟩
def cl15 : Cl := ⟨"BadText", some 125, [], [], ["row"], ["BadText", "FillError"], true⟩
def cl16 : Cl := ⟨"Paper", none, [], [("words", 126)], [], ["Paper"], false⟩
def cl17 : Cl := ⟨"Run", some 127, [], [("many", 128)], ["run"], ["Run"], false⟩
def cl18 : Cl := ⟨"Ladder", some 129, [("width", 133), ("known", 134)], [("__eq__", 135), ("__len__", 136), ("__bool__", 137), ("__contains__", 138), ("__call__", 139), ("__or__", 140), ("__ror__", 141), ("__and__", 142), ("__rand__", 143), ("__xor__", 144), ("__rxor__", 145), ("__sub__", 146), ("__rsub__", 147), ("__rshift__", 148), ("__rrshift__", 149), ("__le__", 150), ("__lt__", 151), ("__ge__", 152), ("__gt__", 153)], ["form"], ["Ladder"], false⟩
def cl19 : Cl := ⟨"Plan", some 154, [("known", 155)], [("__eq__", 156), ("__len__", 157), ("parts", 158)], ["sources", "ladders", "rules", "under"], ["Plan"], false⟩
def cl20 : Cl := ⟨"Kept", some 159, [], [("__eq__", 160), ("words", 161), ("shows", 162)], ["ledgers"], ["Kept", "Paper"], false⟩
def cl21 : Cl := ⟨"Lost", some 163, [], [("__eq__", 164), ("words", 165), ("many", 166), ("shows", 167)], ["run"], ["Lost", "Paper", "Run"], false⟩
def cl22 : Cl := ⟨"Same", some 168, [], [("__eq__", 169), ("words", 170), ("shows", 171)], ["pairs"], ["Same", "Paper"], false⟩
def cl23 : Cl := ⟨"Parted", some 172, [], [("__eq__", 173), ("words", 174), ("many", 175), ("shows", 176)], ["run"], ["Parted", "Paper", "Run"], false⟩
def cl24 : Cl := ⟨"Fewest", some 177, [], [("__eq__", 178), ("words", 179), ("shows", 180)], ["kept", "against"], ["Fewest", "Paper"], false⟩
def cl25 : Cl := ⟨"Steady", some 181, [], [("__eq__", 182), ("words", 183), ("shows", 184)], ["pairs"], ["Steady", "Paper"], false⟩
def cl26 : Cl := ⟨"Unsteady", some 185, [], [("__eq__", 186), ("words", 187), ("many", 188), ("shows", 189)], ["run", "tells", "rest"], ["Unsteady", "Paper", "Run"], false⟩
def cl27 : Cl := ⟨"Enough", some 190, [], [("__eq__", 191), ("words", 192), ("shows", 193)], ["deeds", "marks"], ["Enough", "Paper"], false⟩
def cl28 : Cl := ⟨"Desk", some 194, [], [("__iter__", 195), ("__len__", 196), ("__getitem__", 197), ("__setitem__", 198), ("step", 199), ("scene", 200), ("add", 201), ("forms", 202), ("journal", 203), ("undo", 204), ("branch", 205), ("attempt", 206), ("spot", 207), ("do", 208)], ["sources", "now", "past", "floor", "tokens"], ["Desk"], false⟩
def cl29 : Cl := ⟨"Form", some 209, [], [("both", 210), ("checked", 211), ("__iter__", 212), ("__len__", 213), ("__getitem__", 214), ("__setitem__", 215), ("__iadd__", 216), ("__isub__", 217), ("answer", 218), ("hold", 219), ("take", 220), ("state", 221), ("plan", 222), ("number", 223), ("asked", 224), ("cell", 225)], ["desk", "token"], ["Form"], false⟩
def cl30 : Cl := ⟨"Cell", some 226, [("value", 228), ("origin", 229), ("is_asked", 230)], [("__call__", 227), ("put", 231), ("reset", 232)], ["sheet", "place"], ["Cell"], false⟩
def cs : List Cl := [cl0, cl1, cl2, cl3, cl4, cl5, cl6, cl7, cl8, cl9, cl10, cl11, cl12, cl13, cl14, cl15, cl16, cl17, cl18, cl19, cl20, cl21, cl22, cl23, cl24, cl25, cl26, cl27, cl28, cl29, cl30]
/-- the program beside a law's own defs -/
def mk (g : List D) (s : List (List Sl)) (f : List Fn) (ab : List Nat) : Prg := ⟨glo ++ g, shs ++ s, fns ++ f, 2000, cs, ab⟩
end PF

set_option Elab.async false
set_option linter.all false
set_option maxRecDepth 100000
set_option maxHeartbeats 4000000
/-! EV Q: plain facts about the evaluator. -/
namespace EV
open PySem
/-! ### places -/
mutual
theorem undr_mono {m n : Nat} (h : m ≤ n) : ∀ {d : D}, D.undr m d = true → D.undr n d = true
  | .loc a, e => by
    have e : Nat.ble (a + 1) m = true := e
    show Nat.ble (a + 1) n = true
    rw [Nat.ble_eq] at e ⊢
    omega
  | .tup xs, e => by simp only [D.undr] at e ⊢; exact undrs_mono h e
  | .lst xs, e => by simp only [D.undr] at e ⊢; exact undrs_mono h e
  | .dic _ xs, e => by simp only [D.undr] at e ⊢; exact undrs_mono h e
  | .obj _ _ xs, e => by simp only [D.undr] at e ⊢; exact undrs_mono h e
  | .non, _ => rfl
  | .bl _, _ => rfl
  | .int _, _ => rfl
  | .str _, _ => rfl
  | .ty _, _ => rfl
  | .glo _, _ => rfl
theorem undrs_mono {m n : Nat} (h : m ≤ n) : ∀ {ds : List D}, D.undrs m ds = true → D.undrs n ds = true
  | [], _ => rfl
  | d :: ds, e => by
    simp only [D.undrs, Bool.and_eq_true] at e
    simp only [D.undrs, undr_mono h e.1, undrs_mono h e.2, Bool.and_self]
end
@[simp] theorem undr_int (n : Nat) (i : Int) : D.undr n (.int i) = true := id rfl
@[simp] theorem undr_bl (n : Nat) (i : Bool) : D.undr n (.bl i) = true := id rfl
@[simp] theorem undr_str (n : Nat) (i : Str) : D.undr n (.str i) = true := id rfl
@[simp] theorem undr_non (n : Nat) : D.undr n .non = true := id rfl
@[simp] theorem undr_tup (n : Nat) (xs : List D) : D.undr n (.tup xs) = D.undrs n xs := by simp only [D.undr]
@[simp] theorem undr_lst (n : Nat) (xs : List D) : D.undr n (.lst xs) = D.undrs n xs := by simp only [D.undr]
@[simp] theorem undr_dic (n : Nat) (ks xs : List D) : D.undr n (.dic ks xs) = D.undrs n xs := by simp only [D.undr]
@[simp] theorem undr_loc0 (m : Nat) : D.undr 0 (.loc m) = false := by simp only [D.undr]; rfl
@[simp] theorem undrs_nil (n : Nat) : D.undrs n [] = true := id rfl
@[simp] theorem undrs_cons (n : Nat) (x : D) (xs : List D) : D.undrs n (x :: xs) = (D.undr n x && D.undrs n xs) := by simp only [D.undrs]
@[simp] theorem undrs_append (n : Nat) : ∀ xs ys : List D, D.undrs n (xs ++ ys) = (D.undrs n xs && D.undrs n ys)
  | [], ys => by simp
  | x :: xs, ys => by simp [undrs_append n xs ys, Bool.and_assoc]
theorem undrs_map {α : Type} {n : Nat} {f : α → D} : ∀ {xs : List α}, (∀ x ∈ xs, D.undr n (f x) = true) → D.undrs n (xs.map f) = true
  | [], _ => rfl
  | x :: xs, h => by
    simp only [List.map_cons, undrs_cons, h x (List.mem_cons_self ..), Bool.true_and]
    exact undrs_map fun y hy => h y (List.mem_cons_of_mem _ hy)
@[simp] theorem undrs_ints (n : Nat) (is : List Int) : D.undrs n (is.map .int) = true := undrs_map fun _ _ => rfl
/-! ### what is handed back -/
mutual
theorem frz_id {res : Nat → Option D} : ∀ {d : D}, D.undr 0 d = true → frz res d = some d
  | .loc a, e => by simp at e
  | .tup xs, e => by simp only [frz, frzs_id (show D.undrs 0 xs = true by simpa using e)]
  | .lst xs, e => by simp only [frz, frzs_id (show D.undrs 0 xs = true by simpa using e)]
  | .dic _ xs, e => by simp only [frz, frzs_id (show D.undrs 0 xs = true by simpa using e)]
  | .obj _ _ xs, e => by simp only [frz, frzs_id (show D.undrs 0 xs = true by simpa only [D.undr] using e)]
  | .non, _ => rfl
  | .bl _, _ => rfl
  | .int _, _ => rfl
  | .str _, _ => rfl
  | .ty _, _ => rfl
  | .glo _, _ => rfl
theorem frzs_id {res : Nat → Option D} : ∀ {ds : List D}, D.undrs 0 ds = true → frzs res ds = some ds
  | [], _ => rfl
  | d :: ds, e => by
    simp only [undrs_cons, Bool.and_eq_true] at e
    simp only [frzs, frz_id e.1, frzs_id e.2]
end
theorem done_pu {d : D} {h : Hs} (hd : D.undr 0 d = true) : done 0 d h = .ok d [] := by
  unfold done
  rw [frz_id hd]
  simp
theorem done_lst {h : Hs} {n : Nat} {xs : List D} (e : h[n]? = some (.lst xs)) (hx : D.undrs 0 xs = true) : done 0 (.loc n) h = .ok (.lst xs) [] := by
  unfold done
  have : frz (resF h 0 4) (.loc n) = some (.lst xs) := by
    show resF h 0 4 n = _
    unfold resF
    have : Nat.blt n 0 = false := rfl
    simp only [this, Bool.false_eq_true, if_false, e, frzs_id hx]
  rw [this]
  simp
theorem done_dic {h : Hs} {n : Nat} {kvs : List (D × D)} (e : h[n]? = some (.dic kvs)) (hx : D.undrs 0 (kvs.map (·.2)) = true) : done 0 (.loc n) h = .ok (.dic (kvs.map (·.1)) (kvs.map (·.2))) [] := by
  unfold done
  have : frz (resF h 0 4) (.loc n) = some (.dic (kvs.map (·.1)) (kvs.map (·.2))) := by
    show resF h 0 4 n = _
    unfold resF
    have : Nat.blt n 0 = false := rfl
    simp only [this, Bool.false_eq_true, if_false, e, frzs_id hx]
  rw [this]
  simp
/-! ### calls -/
theorem callP_pu {E : Ev} {f : Nat} {l : List D} {h : Hs} {d : D} (hl : D.undrs 0 l = true) (e : E.call f l [] = .ok d []) : callP E f l h = .ok d h := by
  unfold callP
  rw [if_pos hl, e]
  rfl
abbrev Ek (g : List D) (s : List (List Sl)) (f : List Fn) (ab : List Nat) (k : Nat) : Ev := ⟨PF.glo ++ g, PF.shs ++ s, run (PF.mk g s f ab) k, 2000, PF.cs, ab⟩
theorem callE {g : List D} {s : List (List Sl)} {f : List Fn} {ab : List Nat} {k fn : Nat} {l : List D} {h : Hs} {d : D} (e : run (PF.mk g s f ab) k fn l [] = .ok d []) (hl : D.undrs 0 l = true) : callP (Ek g s f ab k) fn l h = .ok d h := callP_pu hl e
theorem callH {g : List D} {s : List (List Sl)} {f : List Fn} {ab : List Nat} {k fn : Nat} {l : List D} {h h' : Hs} {d : D} (e : run (PF.mk g s f ab) k fn l h = .ok d h') (hl : D.undrs 0 l = false) : callP (Ek g s f ab k) fn l h = .ok d h' := by
  unfold callP
  rw [hl, if_neg (by decide)]
  exact e
theorem done_h {d : D} {h : Hs} (hd : D.undr 0 d = true) (hh : h.all (O.undr h.length) = true) : done h.length d h = .ok d h := by
  unfold done
  rw [frz_id hd, List.take_length, hh]
  rfl
/-! ### loops -/
/-- a for whose body always goes on -/
theorem for_next {s : Src} {step : D → Lc → Hs → SR} (I : List D → Lc → Hs → Prop) (hc : ∀ r L h, I r L h → chk s h = true)
    (hs : ∀ d r L h, I (d :: r) L h → ∃ L' h', (step d L h = .next L' h' ∨ step d L h = .cont L' h') ∧ I r L' h') : ∀ (xs : List D) (L : Lc) (h : Hs), I xs L h → ∃ L' h', forLoop s step xs L h = .next L' h' ∧ I [] L' h'
  | [], L, h, i => ⟨L, h, by simp [forLoop, hc _ _ _ i], i⟩
  | d :: r, L, h, i => by
    obtain ⟨L1, h1, e, i1⟩ := hs d r L h i
    obtain ⟨L2, h2, e2, i2⟩ := for_next I hc hs r L1 h1 i1
    refine ⟨L2, h2, ?_, i2⟩
    simp only [forLoop, hc _ _ _ i, if_true]
    rcases e with e | e <;> rw [e] <;> exact e2
/-- a for over things of a kind: what each turn makes of the slots and the heap -/
theorem for_fold {α : Type} {f : α → D} {s : Src} {step : D → Lc → Hs → SR} (hc : s.g = []) (st : List α → Lc × Hs) (pre : List α) :
    ∀ (xs : List α) (ys : List α), (∀ a dn, a ∈ xs → step (f a) (st dn).1 (st dn).2 = .next (st (dn ++ [a])).1 (st (dn ++ [a])).2) →
    forLoop s step (xs.map f) (st ys).1 (st ys).2 = .next (st (ys ++ xs)).1 (st (ys ++ xs)).2
  | [], ys, _ => by simp [forLoop, chk, chkG, hc]
  | a :: xs, ys, hs => by
    simp only [List.map_cons, forLoop]
    have : chk s (st ys).2 = true := by simp [chk, chkG, hc]
    rw [this, if_pos rfl, hs a ys (List.mem_cons_self ..)]
    show forLoop s step (xs.map f) (st (ys ++ [a])).1 (st (ys ++ [a])).2 = _
    rw [for_fold hc st pre xs (ys ++ [a]) fun b dn hb => hs b dn (List.mem_cons_of_mem _ hb)]
    simp
/-- a comprehension whose parts leave the heap as it is -/
theorem lc_fm {α : Type} {s : Src} {step : D → Hs → R (Option D)} {h : Hs} {f : α → D} {g : α → Option D} (hc : chk s h = true) : ∀ (xs : List α), (∀ a ∈ xs, step (f a) h = .ok (g a) h) → lcLoop s step (xs.map f) h = .ok (xs.filterMap g) h
  | [], _ => by simp [lcLoop, hc]
  | a :: r, hs => by
    simp only [List.map_cons, lcLoop, hc, if_true, hs a (List.mem_cons_self ..), strip, R.bind]
    rw [lc_fm hc r fun e he => hs e (List.mem_cons_of_mem _ he)]
    cases q : g a with
    | none => simp [q]
    | some y => simp [q]
/-- .. and all of which count -/
theorem lc_map {α : Type} {s : Src} {step : D → Hs → R (Option D)} {h : Hs} {f g : α → D} (hc : chk s h = true) (xs : List α) (hs : ∀ a ∈ xs, step (f a) h = .ok (some (g a)) h) : lcLoop s step (xs.map f) h = .ok (xs.map g) h := by
  rw [lc_fm (g := fun a => some (g a)) hc xs hs]
  congr 1
  induction xs with
  | nil => rfl
  | cons a r ih => simp [ih fun e he => hs e (List.mem_cons_of_mem _ he)]
/-! ### ints -/
@[simp] theorem intsOf_ints : ∀ ns : List Int, intsOf (ns.map .int) = some ns
  | [] => rfl
  | n :: ns => by simp [intsOf, intsOf_ints ns]
@[simp] theorem blsOf_bls : ∀ ns : List Bool, blsOf (ns.map .bl) = some ns
  | [] => rfl
  | n :: ns => by simp [blsOf, blsOf_bls ns]
@[simp] theorem flat_ints : ∀ ns : List Int, (ns.map D.int).all flat = true
  | [] => rfl
  | n :: ns => by simp [flat]
theorem any_ints (i : Int) : ∀ ns : List Int, ((ns.map D.int).any fun x => feq x (.int i)) = decide (i ∈ ns)
  | [] => rfl
  | n :: ns => by
    rw [List.map_cons, List.any_cons, any_ints i ns]
    show ((n == i) || _) = _
    rw [Bool.eq_iff_iff]
    simp
    constructor <;> rintro (h | h) <;> first | exact .inl h.symm | exact .inr h
theorem opIn_ints {h : Hs} {d : D} {i : Int} {ns : List Int} (e : items h d = some (ns.map .int)) : opIn h (.int i) d = some (decide (i ∈ ns)) := by
  unfold opIn
  rw [e]
  simp only [flat, flat_ints, Bool.and_true, if_true, any_ints]
/-! ### plain trees: None, ints, tuples of these -/
mutual
def okT : D → Bool
  | .non => true
  | .int _ => true
  | .tup xs => okTs xs
  | _ => false
def okTs : List D → Bool
  | [] => true
  | x :: xs => okT x && okTs xs
end
mutual
def dep : D → Nat
  | .tup xs => deps xs + 1
  | _ => 0
def deps : List D → Nat
  | [] => 0
  | x :: xs => max (dep x) (deps xs)
end
mutual
def pd : D → PyData
  | .int i => .int i
  | .tup xs => .tuple (pds xs)
  | _ => .none
def pds : List D → List PyData
  | [] => []
  | x :: xs => pd x :: pds xs
end
mutual
theorem py_pd (f : Nat → Option PyData) : ∀ {d : D}, okT d = true → pyOf f d = some (pd d)
  | .non, _ => rfl
  | .int _, _ => rfl
  | .tup xs, h => by
    simp only [okT] at h
    simp only [pyOf, pd, pys_pds f h, Option.map_some]
  | .bl _, h => by simp [okT] at h
  | .str _, h => by simp [okT] at h
  | .loc _, h => by simp [okT] at h
  | .ty _, h => by simp [okT] at h
  | .glo _, h => by simp [okT] at h
  | .lst _, h => by simp [okT] at h
  | .dic _ _, h => by simp [okT] at h
  | .obj _ _ _, h => by simp [okT] at h
theorem pys_pds (f : Nat → Option PyData) : ∀ {ds : List D}, okTs ds = true → pysOf f ds = some (pds ds)
  | [], _ => rfl
  | d :: ds, h => by
    simp only [okTs, Bool.and_eq_true] at h
    simp only [pysOf, pds, py_pd f h.1, pys_pds f h.2]
end
mutual
theorem lay_pd : ∀ {d : D}, (pd d).canLay0 = true
  | .int _ => by simp [pd, PyData.canLay0]
  | .tup xs => by simp only [pd, PyData.canLay0]; exact lay_pds
  | .non => by simp [pd, PyData.canLay0]
  | .bl _ => by simp [pd, PyData.canLay0]
  | .str _ => by simp [pd, PyData.canLay0]
  | .loc _ => by simp [pd, PyData.canLay0]
  | .ty _ => by simp [pd, PyData.canLay0]
  | .glo _ => by simp [pd, PyData.canLay0]
  | .lst _ => by simp [pd, PyData.canLay0]
  | .dic _ _ => by simp [pd, PyData.canLay0]
  | .obj _ _ _ => by simp [pd, PyData.canLay0]
theorem lay_pds : ∀ {ds : List D}, PyData.canLayAll0 (pds ds) = true
  | [] => by simp [pds, PyData.canLayAll0]
  | d :: ds => by simp only [pds, PyData.canLayAll0, lay_pd, lay_pds, Bool.and_self]
end
mutual
theorem dep_pd : ∀ {d : D}, (pd d).depth = dep d
  | .int _ => by simp [pd, PyData.depth, dep]
  | .tup xs => by simp only [pd, PyData.depth, dep, dep_pds]
  | .non => by simp [pd, PyData.depth, dep]
  | .bl _ => by simp [pd, PyData.depth, dep]
  | .str _ => by simp [pd, PyData.depth, dep]
  | .loc _ => by simp [pd, PyData.depth, dep]
  | .ty _ => by simp [pd, PyData.depth, dep]
  | .glo _ => by simp [pd, PyData.depth, dep]
  | .lst _ => by simp [pd, PyData.depth, dep]
  | .dic _ _ => by simp [pd, PyData.depth, dep]
  | .obj _ _ _ => by simp [pd, PyData.depth, dep]
theorem dep_pds : ∀ {ds : List D}, PyData.depthAll (pds ds) = deps ds
  | [] => by simp [pds, PyData.depthAll, deps]
  | d :: ds => by simp only [pds, PyData.depthAll, deps, dep_pd, dep_pds]
end
mutual
theorem eqv_pd : ∀ {d e : D}, okT d = true → okT e = true → PyData.eqv (pd d) (pd e) = D.beq d e
  | .non, e, _, h => by
    cases e <;> first | (simp [okT] at h; done) | simp [pd, PyData.eqv, D.beq]
  | .int i, e, _, h => by
    cases e <;> first | (simp [okT] at h; done) | simp [pd, PyData.eqv, D.beq]
    rfl
  | .tup xs, e, h, h2 => by
    cases e <;> first | (simp [okT] at h2; done) | skip
    · simp [pd, PyData.eqv, D.beq]
    · simp [pd, PyData.eqv, D.beq]
    · simp only [okT] at h h2
      simp only [pd, PyData.eqv, D.beq]
      exact eqv_pds h h2
  | .bl _, _, h, _ => by simp [okT] at h
  | .str _, _, h, _ => by simp [okT] at h
  | .loc _, _, h, _ => by simp [okT] at h
  | .ty _, _, h, _ => by simp [okT] at h
  | .glo _, _, h, _ => by simp [okT] at h
  | .lst _, _, h, _ => by simp [okT] at h
  | .dic _ _, _, h, _ => by simp [okT] at h
  | .obj _ _ _, _, h, _ => by simp [okT] at h
theorem eqv_pds : ∀ {ds es : List D}, okTs ds = true → okTs es = true → PyData.eqvAll (pds ds) (pds es) = D.beqs ds es
  | [], es, _, h => by cases es <;> simp [pds, PyData.eqvAll, D.beqs]
  | d :: ds, es, h, h2 => by
    cases es with
    | nil => simp [pds, PyData.eqvAll, D.beqs]
    | cons e es =>
      simp only [okTs, Bool.and_eq_true] at h h2
      simp only [pds, PyData.eqvAll, D.beqs, eqv_pd h.1 h2.1, eqv_pds h.2 h2.2]
end
theorem okT_flat {d : D} (h : okT d = true) (f : flat d = true) : d = .non ∨ ∃ i, d = .int i := by
  cases d <;> first | exact .inl rfl | exact .inr ⟨_, rfl⟩ | (simp [okT] at h; done) | (simp [flat] at f; done)
theorem shaped_pd {d : D} (h : dep d ≤ 64) : SeqAt.shaped (pd d) = true := by
  unfold SeqAt.shaped
  rw [lay_pd, dep_pd]
  simpa using h
theorem shaped_pds {ds : List D} (h : deps ds ≤ 63) : SeqAt.shaped (.list (pds ds)) = true := by
  unfold SeqAt.shaped
  simp only [PyData.canLay0, lay_pds, PyData.depth, dep_pds, Bool.true_and, decide_eq_true_eq]
  omega
theorem opEq_tree {h : Hs} {a b : D} (ha : okT a = true) (hb : okT b = true) (da : dep a ≤ 64) (db : dep b ≤ 64) : opEq h a b = some (D.beq a b) := by
  unfold opEq
  split
  · rename_i hf
    rw [Bool.and_eq_true] at hf
    rcases okT_flat ha hf.1 with rfl | ⟨i, rfl⟩ <;> rcases okT_flat hb hf.2 with rfl | ⟨j, rfl⟩ <;> simp [feq, D.beq]
    rfl
  · unfold toP
    rw [py_pd _ ha, py_pd _ hb]
    simp only [shaped_pd da, shaped_pd db, Bool.and_self, if_true, eqv_pd ha hb]
theorem toP_lst {h : Hs} {d : D} {xs : List D} (e : lstI h d = some xs) (hx : okTs xs = true) : toP h d = some (.list (pds xs)) := by
  cases d with
  | lst ys =>
    simp only [lstI, Option.some.injEq] at e
    subst e
    simp only [toP, pyOf, pys_pds _ hx, Option.map_some]
  | loc n =>
    show resN h 4 n = _
    simp only [lstI] at e
    unfold resN
    split at e
    · rename_i ys q
      cases e
      simp only [q, pys_pds _ hx, Option.map_some]
    · cases e
  | _ => simp only [lstI] at e; cases e
theorem flat_lstI {h : Hs} {d : D} {xs : List D} (e : lstI h d = some xs) : flat d = false := by
  cases d <;> first | rfl | (simp only [lstI] at e; cases e)
theorem opEq_lst {h : Hs} {a b : D} {xs ys : List D} (ea : lstI h a = some xs) (eb : lstI h b = some ys) (hx : okTs xs = true) (hy : okTs ys = true) (dx : deps xs ≤ 63) (dy : deps ys ≤ 63) : opEq h a b = some (D.beqs xs ys) := by
  unfold opEq
  rw [flat_lstI ea, toP_lst ea hx, toP_lst eb hy]
  simp only [Bool.false_and, Bool.false_eq_true, if_false, shaped_pds dx, shaped_pds dy, Bool.and_self, if_true, PyData.eqv, eqv_pds hx hy]
theorem any_pds {a : D} (ha : okT a = true) : ∀ {xs : List D}, okTs xs = true → ((pds xs).any fun q => PyData.eqv q (pd a)) = xs.any fun x => D.beq x a
  | [], _ => rfl
  | x :: xs, h => by
    simp only [okTs, Bool.and_eq_true] at h
    simp only [pds, List.any_cons, eqv_pd h.1 ha, any_pds ha h.2]
theorem opIn_lst {h : Hs} {a b : D} {xs : List D} (eb : lstI h b = some xs) (ha : okT a = true) (hx : okTs xs = true) (da : dep a ≤ 64) (dx : deps xs ≤ 63) (hf : flat a = false) : opIn h a b = some (xs.any fun x => D.beq x a) := by
  have hi : items h b = some xs := by
    cases b <;> first | exact eb | (simp only [lstI] at eb; cases eb)
  unfold opIn
  rw [hi]
  simp only [hf, Bool.false_and, Bool.false_eq_true, if_false, toP_lst eb hx]
  have : toP h a = some (pd a) := py_pd _ ha
  simp only [this, shaped_pd da, shaped_pds dx, Bool.and_self, if_true, any_pds ha hx]
theorem okTs_map {α : Type} {f : α → D} : ∀ {xs : List α}, (∀ a ∈ xs, okT (f a) = true) → okTs (xs.map f) = true
  | [], _ => rfl
  | x :: xs, hf => by
    simp only [List.map_cons, okTs, hf x (List.mem_cons_self ..), Bool.true_and]
    exact okTs_map fun a ha => hf a (List.mem_cons_of_mem _ ha)
theorem deps_le {α : Type} {f : α → D} {n : Nat} : ∀ {xs : List α}, (∀ a ∈ xs, dep (f a) ≤ n) → deps (xs.map f) ≤ n
  | [], _ => by simp [deps]
  | x :: xs, hf => by
    simp only [List.map_cons, deps]
    exact Nat.max_le.mpr ⟨hf x (List.mem_cons_self ..), deps_le fun a ha => hf a (List.mem_cons_of_mem _ ha)⟩
theorem okT_tup {xs : List D} : okT (.tup xs) = okTs xs := by simp only [okT]
theorem dep_tup {xs : List D} : dep (.tup xs) = deps xs + 1 := by simp only [dep]
@[simp] theorem okTs_ints (ns : List Int) : okTs (ns.map .int) = true := okTs_map fun _ _ => rfl
@[simp] theorem deps_ints (ns : List Int) : deps (ns.map .int) = 0 := Nat.le_zero.mp (deps_le fun _ _ => Nat.le_refl 0)
mutual
theorem okT_undr (n : Nat) : ∀ {d : D}, okT d = true → D.undr n d = true
  | .non, _ => rfl
  | .int _, _ => rfl
  | .tup xs, h => by
    simp only [okT] at h
    simp only [D.undr]
    exact okTs_undrs n h
  | .bl _, h => by simp [okT] at h
  | .str _, h => by simp [okT] at h
  | .loc _, h => by simp [okT] at h
  | .ty _, h => by simp [okT] at h
  | .glo _, h => by simp [okT] at h
  | .lst _, h => by simp [okT] at h
  | .dic _ _, h => by simp [okT] at h
  | .obj _ _ _, h => by simp [okT] at h
theorem okTs_undrs (n : Nat) : ∀ {ds : List D}, okTs ds = true → D.undrs n ds = true
  | [], _ => rfl
  | d :: ds, h => by
    simp only [okTs, Bool.and_eq_true] at h
    simp only [D.undrs, okT_undr n h.1, okTs_undrs n h.2, Bool.and_self]
end
theorem beqs_inj {α : Type} {f : α → D} : ∀ {xs ys : List α}, (∀ a b, f a = f b → a = b) → (D.beqs (xs.map f) (ys.map f) = true ↔ xs = ys) := by
  intro xs ys hf
  constructor
  · intro h
    have := D.beqs_eq h
    exact (List.map_inj_right hf).mp this
  · rintro rfl
    exact D.beqs_refl _
/-! ### lengths -/
theorem newL_f {xs : List D} {h : Hs} (hl : xs.length ≤ lim) : newL false xs h = .ok (.lst xs) h := by
  unfold newL
  rw [Nat.ble_eq.mpr hl, if_pos rfl]
theorem newL_t {xs : List D} {h : Hs} (hl : xs.length ≤ lim) : newL true xs h = .ok (.loc h.length) (h ++ [.lst xs]) := by
  unfold newL
  rw [Nat.ble_eq.mpr hl, if_pos rfl]
theorem newT_ok {xs : List D} {h : Hs} (hl : xs.length ≤ lim) : newT xs h = .ok (.tup xs) h := by
  unfold newT
  rw [Nat.ble_eq.mpr hl, if_pos rfl]
end EV

set_option Elab.async false
set_option linter.all false
set_option maxRecDepth 100000
set_option maxHeartbeats 4000000
/-! EV Q2: code run by simp: what comes first is worked out first. -/
namespace EV
open PySem
section
variable {α β : Type}
theorem bind_congr {r r' : R α} {f : α → Hs → R β} (h : r = r') : r.bind f = r'.bind f := by rw [h]
@[simp ↓] theorem bind_ok' {a : α} {h : Hs} {f : α → Hs → R β} : (R.ok a h).bind f = f a h := id rfl
@[simp ↓] theorem bind_exc' {c : Str} {x : Option D} {h : Hs} {f : α → Hs → R β} : (R.exc c x h : R α).bind f = .exc c x h := id rfl
@[simp ↓] theorem bind_bad' {f : α → Hs → R β} : (R.bad : R α).bind f = .bad := id rfl
theorem thenS_congr {L : Lc} {r r' : R α} {f : α → Hs → SR} (h : r = r') : thenS L r f = thenS L r' f := by rw [h]
@[simp ↓] theorem thenS_ok {L : Lc} {a : α} {h : Hs} {f : α → Hs → SR} : thenS L (R.ok a h) f = f a h := id rfl
@[simp ↓] theorem thenS_exc {L : Lc} {c : Str} {x : Option D} {h : Hs} {f : α → Hs → SR} : thenS L (R.exc c x h : R α) f = .exc c x L h := id rfl
@[simp ↓] theorem thenS_bad {L : Lc} {f : α → Hs → SR} : thenS L (R.bad : R α) f = .bad := id rfl
theorem seqS_congr {r r' : SR} {f : Lc → Hs → SR} (h : r = r') : seqS r f = seqS r' f := by rw [h]
@[simp ↓] theorem seqS_next {L : Lc} {h : Hs} {f : Lc → Hs → SR} : seqS (.next L h) f = f L h := id rfl
@[simp ↓] theorem seqS_ret {d : D} {h : Hs} {f : Lc → Hs → SR} : seqS (.ret d h) f = .ret d h := id rfl
@[simp ↓] theorem seqS_brk {L : Lc} {h : Hs} {f : Lc → Hs → SR} : seqS (.brk L h) f = .brk L h := id rfl
@[simp ↓] theorem seqS_cont {L : Lc} {h : Hs} {f : Lc → Hs → SR} : seqS (.cont L h) f = .cont L h := id rfl
@[simp ↓] theorem seqS_exc {c : Str} {x : Option D} {L : Lc} {h : Hs} {f : Lc → Hs → SR} : seqS (.exc c x L h) f = .exc c x L h := id rfl
end
@[simp] theorem tst_f {r : R D} : tst false r = r := id rfl
@[simp] theorem tst_t {d : D} {h : Hs} {b : Bool} (e : truthy h d = some b) : tst true (.ok d h) = .ok (.bl b) h := by simp [tst, R.bind, e]
@[simp] theorem tstv_bl {b : Bool} {h : Hs} : tst true (.ok (.bl b) h) = .ok (.bl b) h := id rfl
@[simp] theorem tstv_non {h : Hs} : tst true (.ok .non h) = .ok (.bl false) h := id rfl
@[simp] theorem tstv_tup {xs : List D} {h : Hs} : tst true (.ok (.tup xs) h) = .ok (.bl (!xs.isEmpty)) h := id rfl
@[simp] theorem tstv_lst {xs : List D} {h : Hs} : tst true (.ok (.lst xs) h) = .ok (.bl (!xs.isEmpty)) h := id rfl
@[simp] theorem truthy_bl {h : Hs} {b : Bool} : truthy h (.bl b) = some b := id rfl
@[simp] theorem truthy_non {h : Hs} : truthy h .non = some false := id rfl
@[simp] theorem truthy_tup {h : Hs} {xs : List D} : truthy h (.tup xs) = some (!xs.isEmpty) := id rfl
@[simp] theorem truthy_lst {h : Hs} {xs : List D} : truthy h (.lst xs) = some (!xs.isEmpty) := id rfl
@[simp] theorem asB_bl {b : Bool} {h : Hs} : asB (.ok (.bl b) h) = .ok b h := id rfl
@[simp] theorem asB_exc {c : Str} {x : Option D} {h : Hs} : asB (.exc c x h) = .exc c x h := id rfl
@[simp] theorem notT_f {x y : R D} : notT false x y = tst true y := id rfl
@[simp] theorem notT_t {x y : R D} : notT true x y = x := id rfl
@[simp] theorem optD_some {d : D} {h : Hs} : optD (some d) h = .ok d h := id rfl
@[simp] theorem optB_some {b : Bool} {h : Hs} : optB (some b) h = .ok (.bl b) h := id rfl
@[simp] theorem optS_some {L : Lc} {h : Hs} : optS (some L) h = .next L h := id rfl
/-! ### code -/
/-- a turn of a comprehension -/
def lcStep (E : Ev) (vs : List Nat) (tg : Tg) (ifs : Cs) (e : C) (L : Lc) : D → Hs → R (Option D) := fun d h => stepC (setTg tg d (wipeL vs L)) (fun L h => exA E ifs L h) (fun L h => ex E e false L h) h
def forStep (E : Ev) (tg : Tg) (b : Ss) : D → Lc → Hs → SR := fun d L h => stepF (setTg tg d L) (fun L h => exSs E b L h) h
def whT (E : Ev) (t : C) : Lc → Hs → R Bool := fun L h => asB (ex E t true L h)
def whS (E : Ev) (b : Ss) : Lc → Hs → SR := fun L h => exSs E b L h
section
variable {E : Ev} {t : Bool} {L : Lc} {h : Hs} {a b c e o i lo hi : C} {es ks ifs : Cs} {r : Ss} {st : S}
def varR (x : Option (Option D)) (h : Hs) : R D := match x with
  | some (some d) => .ok d h
  | _ => .bad
@[simp] theorem varR_some {d : D} : varR (some (some d)) h = .ok d h := id rfl
@[simp] theorem ex_var {i : Nat} : ex E (.var i) t L h = tst t (varR (L[i]?) h) := by
  simp only [ex]
  rfl
@[simp] theorem ex_cint {i : Int} : ex E (.cint i) t L h = tst t (.ok (.int i) h) := by simp only [ex]
@[simp] theorem ex_cbl {i : Bool} : ex E (.cbl i) t L h = tst t (.ok (.bl i) h) := by simp only [ex]
@[simp] theorem ex_cnon : ex E .cnon t L h = tst t (.ok .non h) := by simp only [ex]
@[simp] theorem ex_cstr {i : Str} : ex E (.cstr i) t L h = tst t (.ok (.str i) h) := by simp only [ex]
@[simp] theorem ex_glo {i : Nat} : ex E (.glo i) t L h = tst t (optD (E.G[i]?) h) := by simp only [ex]
@[simp] theorem ex_tyv {n : String} : ex E (.tyv n) t L h = tst t (.ok (.ty n) h) := by simp only [ex]
@[simp] theorem ex_bin {op : Operator} : ex E (.bin op a b) t L h = tst t ((ex E a false L h).bind fun x h => (ex E b false L h).bind fun y h => opBin op x y h) := by simp only [ex]
def negR (x : D) (h : Hs) : R D := match x with
  | .int i => .ok (.int (-i)) h
  | _ => .bad
@[simp] theorem ex_neg : ex E (.neg a) t L h = tst t ((ex E a false L h).bind negR) := by simp only [ex]; rfl
@[simp] theorem negR_int {i : Int} : negR (.int i) h = .ok (.int (-i)) h := id rfl
@[simp] theorem ex_cmp {op : CmpOp} : ex E (.cmp op a b) t L h = tst t ((ex E a false L h).bind fun x h => (ex E b false L h).bind fun y h => opCmp op x y h) := by simp only [ex]
def andR (x : D) (h : Hs) (y : R D) : R D := match x with
  | .bl true => y
  | .bl false => .ok (.bl false) h
  | _ => .bad
def orR (x : D) (h : Hs) (y : R D) : R D := match x with
  | .bl true => .ok (.bl true) h
  | .bl false => y
  | _ => .bad
theorem andR_congr {x x' : D} {h : Hs} {y : R D} (e : x = x') : andR x h y = andR x' h y := by rw [e]
theorem orR_congr {x x' : D} {h : Hs} {y : R D} (e : x = x') : orR x h y = orR x' h y := by rw [e]
@[simp ↓] theorem andR_t {y : R D} : andR (.bl true) h y = y := id rfl
@[simp ↓] theorem andR_f {y : R D} : andR (.bl false) h y = .ok (.bl false) h := id rfl
@[simp ↓] theorem orR_t {y : R D} : orR (.bl true) h y = .ok (.bl true) h := id rfl
@[simp ↓] theorem orR_f {y : R D} : orR (.bl false) h y = y := id rfl
@[simp] theorem ex_chain {op op2 : CmpOp} : ex E (.chain op op2 a b c) t L h = tst t ((ex E a false L h).bind fun x h => (ex E b false L h).bind fun y h => (opCmp op x y h).bind fun z h => andR z h ((ex E c false L h).bind fun u h => opCmp op2 y u h)) := by
  simp only [ex]
  rfl
@[simp] theorem ex_and : ex E (.and a b) t L h = (ex E a t L h).bind fun x h => andR x h (ex E b t L h) := by
  simp only [ex]
  rfl
@[simp] theorem ex_or : ex E (.or a b) t L h = (ex E a t L h).bind fun x h => orR x h (ex E b t L h) := by
  simp only [ex]
  rfl
@[simp] theorem ex_not : ex E (.not a) t L h = (asB (notT t (ex E a true L h) (ex E a false L h))).bind fun b h => .ok (.bl (!b)) h := by simp only [ex]
def ifR {α : Type} (c : Bool) (x y : α) : α := if c then x else y
theorem ifR_congr {α : Type} {c c' : Bool} {x y : α} (e : c = c') : ifR c x y = ifR c' x y := by rw [e]
@[simp ↓] theorem ifR_t {α : Type} {x y : α} : ifR true x y = x := id rfl
@[simp ↓] theorem ifR_f {α : Type} {x y : α} : ifR false x y = y := id rfl
@[simp] theorem ex_ife : ex E (.ife c a b) t L h = (asB (ex E c true L h)).bind fun c h => ifR c (ex E a t L h) (ex E b t L h) := by
  simp only [ex]
  rfl
@[simp] theorem ex_tup : ex E (.tup es) t L h = tst t ((exs E es L h).bind fun xs h => newT xs h) := by simp only [ex]
@[simp] theorem ex_lst {m : Bool} : ex E (.lst m es) t L h = tst t ((exs E es L h).bind fun xs h => newL m xs h) := by simp only [ex]
@[simp] theorem ex_dnew : ex E .dnew t L h = tst t (.ok (.loc h.length) (h ++ [.dic []])) := by simp only [ex]
def callR (E : Ev) (f : Nat) (o : Option (List D)) (h : Hs) : R D := match o with
  | some l => callP E f l h
  | none => .bad
@[simp] theorem callR_some {f : Nat} {l : List D} : callR E f (some l) h = callP E f l h := id rfl
@[simp] theorem ex_call {f sh : Nat} : ex E (.call f sh es ks) t L h = tst t ((exs E es L h).bind fun ds h => (exs E ks L h).bind fun zs h => callR E f ((E.shs[sh]?).bind (arr ds zs)) h) := by
  simp only [ex]
  rfl
@[simp] theorem ex_blt {f : B} : ex E (.blt f es) t L h = tst t ((exs E es L h).bind fun ds h => callB f ds h) := by simp only [ex]
@[simp] theorem ex_met {m : M} : ex E (.met o m es) t L h = tst t ((ex E o false L h).bind fun x h1 => ifR (kindM m x h1) ((exs E es L h1).bind fun ds h2 => callM x m ds h2) .bad) := by
  simp only [ex]
  rfl
def dvR (o : Option (List (D × D))) (h : Hs) : R D := match o with
  | some kvs => .ok (.lst (kvs.map (·.2))) h
  | none => .bad
@[simp] theorem dvR_some {kvs : List (D × D)} : dvR (some kvs) h = .ok (.lst (kvs.map (·.2))) h := id rfl
@[simp] theorem ex_dvals : ex E (.dvals o) t L h = tst t ((ex E o false L h).bind fun x h => dvR (dicI h x) h) := by
  simp only [ex]
  rfl
@[simp] theorem ex_sub : ex E (.sub o i) t L h = tst t ((ex E o false L h).bind fun x h => (ex E i false L h).bind fun y h => opSub x y h) := by simp only [ex]
@[simp] theorem ex_slc : ex E (.slc o lo hi) t L h = tst t ((ex E o false L h).bind fun x h => (bnd (isNo lo) (ex E lo false L h)).bind fun y h => (bnd (isNo hi) (ex E hi false L h)).bind fun z h => opSlc x y z h) := by simp only [ex]
@[simp] theorem ex_no : ex E .no t L h = .ok .non h := by simp only [ex]
@[simp] theorem bnd_t {r : R D} : bnd true r = r := id rfl
@[simp] theorem bnd_f {i : Int} : bnd false (.ok (.int i) h) = .ok (.int i) h := id rfl
@[simp] theorem isNo_no : isNo .no = true := id rfl
@[simp] theorem isNo_int {i : Int} : isNo (.cint i) = false := id rfl
@[simp] theorem isNo_var {i : Nat} : isNo (.var i) = false := id rfl
@[simp] theorem isNo_bin {op : Operator} : isNo (.bin op a b) = false := id rfl
@[simp] theorem ex_lc {m : Bool} {vs : List Nat} {tg : Tg} {it : It} : ex E (.lc m vs tg it ifs e) t L h = tst t ((exI E it L h).bind fun s h => (lcLoop s (lcStep E vs tg ifs e L) s.xs h).bind fun ys h => newL m ys h) := by
  simp only [ex]
  rfl
@[simp] theorem exs_nil : exs E .nil L h = .ok [] h := by simp only [exs]
@[simp] theorem exs_cons : exs E (.cons e es) L h = (ex E e false L h).bind fun x h => (exs E es L h).bind fun xs h => .ok (x :: xs) h := by simp only [exs]
def starR (o : Option (List D)) (r : R (List D)) : R (List D) := match o with
  | some ys => r.bind fun xs h => .ok (ys ++ xs) h
  | none => .bad
@[simp] theorem starR_some {ys : List D} {r : R (List D)} : starR (some ys) r = r.bind fun xs h => .ok (ys ++ xs) h := id rfl
@[simp] theorem exs_star : exs E (.star e es) L h = (ex E e false L h).bind fun x h => starR (items h x) (exs E es L h) := by
  simp only [exs]
  rfl
@[simp] theorem exI_of : exI E (.of e) L h = (ex E e false L h).bind fun d h => srcOf d h fun xs => xs := by simp only [exI]
@[simp] theorem exI_rng : exI E (.rng es) L h = (exs E es L h).bind fun ds h => rngOf ds h := by simp only [exI]
@[simp] theorem exI_enum : exI E (.enum e) L h = (ex E e false L h).bind fun d h => srcOf d h (enumD 0) := by simp only [exI]
@[simp] theorem exI_zip : exI E (.zip a b) L h = (ex E a false L h).bind fun x h => (ex E b false L h).bind fun y h => zipOf x y h := by simp only [exI]
@[simp] theorem exA_nil : exA E .nil L h = .ok true h := by simp only [exA]
@[simp] theorem exA_cons : exA E (.cons e es) L h = (asB (ex E e true L h)).bind fun c h => ifR c (exA E es L h) (.ok false h) := by
  simp only [exA]
  rfl
@[simp] theorem exS_expr : exS E (.expr e) L h = thenS L (ex E e false L h) fun _ h => .next L h := by simp only [exS]
@[simp] theorem exS_asg {tg : Tg} : exS E (.asg tg e) L h = thenS L (ex E e false L h) fun d h => optS (setTg tg d L) h := by simp only [exS]
@[simp] theorem exS_par {ts : List Nat} : exS E (.par ts es) L h = thenS L (exs E es L h) fun xs h => optS (setAll ts xs L) h := by simp only [exS]
@[simp] theorem exS_sset : exS E (.sset o i e) L h = thenS L (ex E e false L h) fun v h => thenS L (ex E o false L h) fun a h => thenS L (ex E i false L h) fun b h => thenS L (setSub a b v h) fun _ h => .next L h := by simp only [exS]
def augS (op : Operator) (i : Nat) (o : Option (Option D)) (r : Hs → R D) (L : Lc) (h : Hs) : SR := match o with
  | some (some x) => thenS L (r h) fun y h => thenS L (opAug op x y h) fun z h => .next (L.set i (some z)) h
  | _ => .bad
@[simp] theorem augS_some {op : Operator} {i : Nat} {x : D} {r : Hs → R D} : augS op i (some (some x)) r L h = thenS L (r h) fun y h => thenS L (opAug op x y h) fun z h => .next (L.set i (some z)) h := id rfl
@[simp] theorem exS_aug {op : Operator} {i : Nat} : exS E (.aug op i e) L h = augS op i (L[i]?) (ex E e false L) L h := by
  simp only [exS]
  rfl
@[simp] theorem exS_ret : exS E (.ret e) L h = thenS L (ex E e false L h) fun d h => .ret d h := by simp only [exS]
@[simp] theorem exS_retN : exS E .retN L h = .ret .non h := by simp only [exS]
@[simp] theorem exS_ife {a b : Ss} : exS E (.ife c a b) L h = thenS L (asB (ex E c true L h)) fun c h => ifR c (exSs E a L h) (exSs E b L h) := by
  simp only [exS]
  rfl
@[simp] theorem exS_whl {b : Ss} : exS E (.whl c b) L h = whileLoop (whT E c) (whS E b) E.wf L h := by
  simp only [exS]
  rfl
@[simp] theorem exS_for {tg : Tg} {it : It} {b : Ss} : exS E (.for tg it b) L h = thenS L (exI E it L h) fun s h => forLoop s (forStep E tg b) s.xs L h := by
  simp only [exS]
  rfl
@[simp] theorem exS_never : exS E .never L h = .bad := by simp only [exS]
@[simp] theorem exS_pass : exS E .pass L h = .next L h := by simp only [exS]
@[simp] theorem exS_brk : exS E .brk L h = .brk L h := by simp only [exS]
@[simp] theorem exS_cont : exS E .cont L h = .cont L h := by simp only [exS]
@[simp] theorem exSs_nil : exSs E .nil L h = .next L h := by simp only [exSs]
@[simp] theorem exSs_cons : exSs E (.cons st r) L h = seqS (exS E st L h) fun L h => exSs E r L h := by simp only [exSs]
/-! ### operations -/
@[simp] theorem add_int {i j : Int} : opBin .Add (.int i) (.int j) h = .ok (.int (i + j)) h := id rfl
@[simp] theorem add_lst {xs ys : List D} : opBin .Add (.lst xs) (.lst ys) h = newL false (xs ++ ys) h := id rfl
@[simp] theorem add_tup {xs ys : List D} : opBin .Add (.tup xs) (.tup ys) h = newT (xs ++ ys) h := id rfl
@[simp] theorem sub_int {i j : Int} : opBin .Sub (.int i) (.int j) h = .ok (.int (i - j)) h := id rfl
theorem mod_int {i j : Int} (hj : 0 < j) : opBin .Mod (.int i) (.int j) h = .ok (.int (i % j)) h := by simp [opBin, hj]
theorem fdiv_int {i j : Int} (hj : 0 < j) (hk : j < 1073741824) : opBin .FloorDiv (.int i) (.int j) h = .ok (.int (i / j)) h := by simp [opBin, hj, hk]
theorem mul_l {i j : Int} (hi : -18446744073709551616 < i ∧ i < 18446744073709551616) : opBin .Mult (.int i) (.int j) h = .ok (.int (i * j)) h := by
  have : cmulB i j = true := by
    unfold cmulB
    rw [decide_eq_true (show -(2 ^ 64) < i from hi.1), decide_eq_true (show i < 2 ^ 64 from hi.2)]
    rfl
  simp [opBin, this]
theorem mul_r {i j : Int} (hj : -18446744073709551616 < j ∧ j < 18446744073709551616) : opBin .Mult (.int i) (.int j) h = .ok (.int (i * j)) h := by
  have : cmulB i j = true := by
    unfold cmulB
    rw [decide_eq_true (show -(2 ^ 64) < j from hj.1), decide_eq_true (show j < 2 ^ 64 from hj.2)]
    simp
  simp [opBin, this]
@[simp] theorem lt_int {i j : Int} : opCmp .Lt (.int i) (.int j) h = .ok (.bl (decide (i < j))) h := id rfl
@[simp] theorem le_int {i j : Int} : opCmp .LtE (.int i) (.int j) h = .ok (.bl (decide (i ≤ j))) h := id rfl
@[simp] theorem gt_int {i j : Int} : opCmp .Gt (.int i) (.int j) h = .ok (.bl (decide (j < i))) h := id rfl
@[simp] theorem ge_int {i j : Int} : opCmp .GtE (.int i) (.int j) h = .ok (.bl (decide (j ≤ i))) h := id rfl
@[simp] theorem is_non {d : D} : opCmp .Is d .non h = .ok (.bl (isNon d)) h := id rfl
@[simp] theorem isnt_non {d : D} : opCmp .IsNot d .non h = .ok (.bl (!isNon d)) h := id rfl
@[simp] theorem isNon_int {i : Int} : isNon (.int i) = false := id rfl
@[simp] theorem isNon_non : isNon .non = true := id rfl
@[simp] theorem isNon_tup {xs : List D} : isNon (.tup xs) = false := id rfl
@[simp] theorem cmp_eq {x y : D} : opCmp .Eq x y h = optB (opEq h x y) h := id rfl
@[simp] theorem cmp_ne {x y : D} : opCmp .NotEq x y h = optB ((opEq h x y).map not) h := id rfl
@[simp] theorem cmp_in {x y : D} : opCmp .In x y h = optB (opIn h x y) h := id rfl
@[simp] theorem cmp_notIn {x y : D} : opCmp .NotIn x y h = optB ((opIn h x y).map not) h := id rfl
@[simp] theorem eq_int {i j : Int} : opEq h (.int i) (.int j) = some (decide (i = j)) := id rfl
@[simp] theorem eq_str {i j : Str} : opEq h (.str i) (.str j) = some (i == j) := id rfl
@[simp] theorem items_tup {xs : List D} : items h (.tup xs) = some xs := id rfl
@[simp] theorem items_lst {xs : List D} : items h (.lst xs) = some xs := id rfl
@[simp] theorem lstI_lst {xs : List D} : lstI h (.lst xs) = some xs := id rfl
@[simp] theorem len_tup {xs : List D} : callB .len [.tup xs] h = .ok (.int xs.length) h := id rfl
@[simp] theorem len_lst {xs : List D} : callB .len [.lst xs] h = .ok (.int xs.length) h := id rfl
@[simp] theorem int_int {i : Int} : callB .int [.int i] h = .ok (.int i) h := id rfl
@[simp] theorem tuple_lst {xs : List D} : callB .tuple [.lst xs] h = .ok (.tup xs) h := id rfl
@[simp] theorem list_tup {xs : List D} : callB .list [.tup xs] h = .ok (.lst xs) h := id rfl
@[simp] theorem list_lst {xs : List D} : callB .list [.lst xs] h = .ok (.lst xs) h := id rfl
@[simp] theorem isi_tup {xs : List D} : callB .isi [.tup xs, .ty "tuple"] h = .ok (.bl true) h := id rfl
@[simp] theorem isi_int {i : Int} : callB .isi [.int i, .ty "int"] h = .ok (.bl true) h := id rfl
@[simp] theorem isi_int_b {i : Int} : callB .isi [.int i, .ty "bool"] h = .ok (.bl false) h := id rfl
@[simp] theorem isi_non {t : String} (ht : tyOk t = true) (hn : (t == "NoneType") = false) : callB .isi [.non, .ty t] h = .ok (.bl false) h := by simp [callB, ht, tyB, hn, optB]
theorem all_bls {xs : List D} {bs : List Bool} (e : blsOf xs = some bs) : callB .all [.lst xs] h = .ok (.bl (bs.all id)) h := by simp [callB, e]
theorem any_bls {xs : List D} {bs : List Bool} (e : blsOf xs = some bs) : callB .any [.lst xs] h = .ok (.bl (bs.any id)) h := by simp [callB, e]
@[simp] theorem sorted_ints {is : List Int} : callB .sorted [.lst (is.map .int)] h = .ok (.lst ((sortI is).map .int)) h := by simp [callB]
@[simp] theorem sum_ints {is : List Int} : callB .sum [.lst (is.map .int)] h = .ok (.int is.sum) h := by simp [callB]
@[simp] theorem src_tup {xs : List D} {f : List D → List D} : srcOf (.tup xs) h f = .ok ⟨f xs, []⟩ h := id rfl
@[simp] theorem src_lst {xs : List D} {f : List D → List D} : srcOf (.lst xs) h f = .ok ⟨f xs, []⟩ h := id rfl
theorem rng1 {j : Int} (hj : small j = true) : rngOf [.int j] h = .ok ⟨rangeD 0 j.toNat, []⟩ h := by simp [rngOf, hj]
@[simp] theorem setTg_name {i : Nat} {d : D} : setTg (.name i) d L = some (L.set i (some d)) := id rfl
@[simp] theorem setTg_tup2 {i j : Nat} {d e : D} : setTg (.tup [i, j]) (.tup [d, e]) L = some ((L.set i (some d)).set j (some e)) := id rfl
@[simp] theorem setAll2 {i j : Nat} {d e : D} : setAll [i, j] [d, e] L = some ((L.set i (some d)).set j (some e)) := id rfl
@[simp] theorem setAll3 {i j k : Nat} {d e f : D} : setAll [i, j, k] [d, e, f] L = some (((L.set i (some d)).set j (some e)).set k (some f)) := id rfl
@[simp] theorem arr_nil {α : Type} {ds zs : List α} : arr ds zs [] = some [] := id rfl
theorem arr_cons' {α : Type} {ds zs : List α} {sl : Slp α} {r : List (Slp α)} {d : α} {l : List α} (e : arr1 ds zs sl = some d) (q : arr ds zs r = some l) : arr ds zs (sl :: r) = some (d :: l) := by simp [arr, e, q]
@[simp] theorem newT_0 : newT [] h = .ok (.tup []) h := id rfl
@[simp] theorem newLf_0 : newL false [] h = .ok (.lst []) h := id rfl
@[simp] theorem newLt_0 : newL true [] h = .ok (.loc h.length) (h ++ [.lst []]) := id rfl
@[simp] theorem newT_1 {x0 : D} : newT [x0] h = .ok (.tup [x0]) h := id rfl
@[simp] theorem newLf_1 {x0 : D} : newL false [x0] h = .ok (.lst [x0]) h := id rfl
@[simp] theorem newLt_1 {x0 : D} : newL true [x0] h = .ok (.loc h.length) (h ++ [.lst [x0]]) := id rfl
@[simp] theorem newT_2 {x0 x1 : D} : newT [x0, x1] h = .ok (.tup [x0, x1]) h := id rfl
@[simp] theorem newLf_2 {x0 x1 : D} : newL false [x0, x1] h = .ok (.lst [x0, x1]) h := id rfl
@[simp] theorem newLt_2 {x0 x1 : D} : newL true [x0, x1] h = .ok (.loc h.length) (h ++ [.lst [x0, x1]]) := id rfl
@[simp] theorem newT_3 {x0 x1 x2 : D} : newT [x0, x1, x2] h = .ok (.tup [x0, x1, x2]) h := id rfl
@[simp] theorem newLf_3 {x0 x1 x2 : D} : newL false [x0, x1, x2] h = .ok (.lst [x0, x1, x2]) h := id rfl
@[simp] theorem newLt_3 {x0 x1 x2 : D} : newL true [x0, x1, x2] h = .ok (.loc h.length) (h ++ [.lst [x0, x1, x2]]) := id rfl
@[simp] theorem newT_4 {x0 x1 x2 x3 : D} : newT [x0, x1, x2, x3] h = .ok (.tup [x0, x1, x2, x3]) h := id rfl
@[simp] theorem newLf_4 {x0 x1 x2 x3 : D} : newL false [x0, x1, x2, x3] h = .ok (.lst [x0, x1, x2, x3]) h := id rfl
@[simp] theorem newLt_4 {x0 x1 x2 x3 : D} : newL true [x0, x1, x2, x3] h = .ok (.loc h.length) (h ++ [.lst [x0, x1, x2, x3]]) := id rfl
@[simp] theorem newT_5 {x0 x1 x2 x3 x4 : D} : newT [x0, x1, x2, x3, x4] h = .ok (.tup [x0, x1, x2, x3, x4]) h := id rfl
@[simp] theorem newLf_5 {x0 x1 x2 x3 x4 : D} : newL false [x0, x1, x2, x3, x4] h = .ok (.lst [x0, x1, x2, x3, x4]) h := id rfl
@[simp] theorem newLt_5 {x0 x1 x2 x3 x4 : D} : newL true [x0, x1, x2, x3, x4] h = .ok (.loc h.length) (h ++ [.lst [x0, x1, x2, x3, x4]]) := id rfl
@[simp] theorem newT_6 {x0 x1 x2 x3 x4 x5 : D} : newT [x0, x1, x2, x3, x4, x5] h = .ok (.tup [x0, x1, x2, x3, x4, x5]) h := id rfl
@[simp] theorem newLf_6 {x0 x1 x2 x3 x4 x5 : D} : newL false [x0, x1, x2, x3, x4, x5] h = .ok (.lst [x0, x1, x2, x3, x4, x5]) h := id rfl
@[simp] theorem newLt_6 {x0 x1 x2 x3 x4 x5 : D} : newL true [x0, x1, x2, x3, x4, x5] h = .ok (.loc h.length) (h ++ [.lst [x0, x1, x2, x3, x4, x5]]) := id rfl
@[simp] theorem newT_7 {x0 x1 x2 x3 x4 x5 x6 : D} : newT [x0, x1, x2, x3, x4, x5, x6] h = .ok (.tup [x0, x1, x2, x3, x4, x5, x6]) h := id rfl
@[simp] theorem newLf_7 {x0 x1 x2 x3 x4 x5 x6 : D} : newL false [x0, x1, x2, x3, x4, x5, x6] h = .ok (.lst [x0, x1, x2, x3, x4, x5, x6]) h := id rfl
@[simp] theorem newLt_7 {x0 x1 x2 x3 x4 x5 x6 : D} : newL true [x0, x1, x2, x3, x4, x5, x6] h = .ok (.loc h.length) (h ++ [.lst [x0, x1, x2, x3, x4, x5, x6]]) := id rfl
@[simp] theorem newT_8 {x0 x1 x2 x3 x4 x5 x6 x7 : D} : newT [x0, x1, x2, x3, x4, x5, x6, x7] h = .ok (.tup [x0, x1, x2, x3, x4, x5, x6, x7]) h := id rfl
@[simp] theorem newLf_8 {x0 x1 x2 x3 x4 x5 x6 x7 : D} : newL false [x0, x1, x2, x3, x4, x5, x6, x7] h = .ok (.lst [x0, x1, x2, x3, x4, x5, x6, x7]) h := id rfl
@[simp] theorem newLt_8 {x0 x1 x2 x3 x4 x5 x6 x7 : D} : newL true [x0, x1, x2, x3, x4, x5, x6, x7] h = .ok (.loc h.length) (h ++ [.lst [x0, x1, x2, x3, x4, x5, x6, x7]]) := id rfl
/-! ### turns -/
theorem lcStep_all {vs : List Nat} {tg : Tg} {L2 : Lc} {d y : D} (hs : setTg tg d (wipeL vs L) = some L2) (he : ex E e false L2 h = .ok y h) : lcStep E vs tg .nil e L d h = .ok (some y) h := by
  unfold lcStep
  rw [hs]
  simp [stepC, he]
theorem lcStep_if {vs : List Nat} {tg : Tg} {L2 : Lc} {d y : D} {p : Bool} (hs : setTg tg d (wipeL vs L) = some L2) (ht : ex E c true L2 h = .ok (.bl p) h) (he : p = true → ex E e false L2 h = .ok y h) : lcStep E vs tg (.cons c .nil) e L d h = .ok (if p then some y else none) h := by
  unfold lcStep
  rw [hs]
  cases p with
  | true => simp [stepC, ht, he rfl]
  | false => simp [stepC, ht]
@[simp] theorem forStep_eq {tg : Tg} {b : Ss} {L2 : Lc} {d : D} (hs : setTg tg d L = some L2) : forStep E tg b d L h = exSs E b L2 h := by
  unfold forStep
  rw [hs]
  rfl
@[simp] theorem wipeL_nil : wipeL [] L = L := id rfl
@[simp] theorem wipeL_cons {v : Nat} {vs : List Nat} : wipeL (v :: vs) L = (wipeL vs L).set v none := id rfl
@[simp] theorem endS_ret {d : D} {h : Hs} (hd : D.undr 0 d = true) : endS 0 (.ret d h) = .ok d [] := done_pu hd
theorem endS_h {d : D} {h : Hs} {n : Nat} (hn : n = h.length) (hd : D.undr 0 d = true) (hh : h.all (O.undr h.length) = true) : endS n (.ret d h) = .ok d h := by
  subst hn
  exact done_h hd hh
theorem endS_lst {h : Hs} {n : Nat} {xs : List D} (e : h[n]? = some (.lst xs)) (hx : D.undrs 0 xs = true) : endS 0 (.ret (.loc n) h) = .ok (.lst xs) [] := done_lst e hx
theorem endS_dic {h : Hs} {n : Nat} {kvs : List (D × D)} (e : h[n]? = some (.dic kvs)) (hx : D.undrs 0 (kvs.map (·.2)) = true) : endS 0 (.ret (.loc n) h) = .ok (.dic (kvs.map (·.1)) (kvs.map (·.2))) [] := done_dic e hx
end
end EV

set_option Elab.async false
set_option linter.all false
set_option maxRecDepth 100000
set_option maxHeartbeats 4000000
/-! names, rows: plain mathematics. -/
namespace EV
/-! ### the first free one -/
/-- from v on by steps of d: the first that is not in xs -/
def sk (d : Int) (xs : List Int) : Nat → Int → Int
  | 0, v => v
  | f + 1, v => if v ∈ xs then sk d xs f (v + d) else v
theorem sk_form (d : Int) (xs : List Int) : ∀ (f : Nat) (v : Int), ∃ i : Nat, sk d xs f v = v + i * d
  | 0, v => ⟨0, by simp [sk]⟩
  | f + 1, v => by
    unfold sk
    split
    · obtain ⟨i, e⟩ := sk_form d xs f (v + d)
      refine ⟨i + 1, ?_⟩
      rw [e, show ((i + 1 : Nat) : Int) = i + 1 from rfl, Int.add_mul]
      omega
    · exact ⟨0, by simp⟩
theorem sk_congr (d : Int) {xs ys : List Int} : ∀ (f : Nat) (v : Int), (∀ i : Nat, v + i * d ∈ xs ↔ v + i * d ∈ ys) → sk d xs f v = sk d ys f v
  | 0, v, _ => rfl
  | f + 1, v, h => by
    have h0 : v ∈ xs ↔ v ∈ ys := by simpa using h 0
    have ih := sk_congr d (xs := xs) (ys := ys) f (v + d) fun i => by
      have := h (i + 1)
      have e : v + ((i + 1 : Nat) : Int) * d = v + d + i * d := by
        rw [show ((i + 1 : Nat) : Int) = i + 1 from rfl, Int.add_mul]
        omega
      rwa [e] at this
    unfold sk
    by_cases hv : v ∈ xs
    · rw [if_pos hv, if_pos (h0.mp hv), ih]
    · rw [if_neg hv, if_neg fun q => hv (h0.mpr q)]
theorem filter_ne_lt {xs : List Int} {v : Int} (h : v ∈ xs) : (xs.filter fun x => decide (x ≠ v)).length < xs.length := by
  induction xs with
  | nil => simp at h
  | cons y ys ih =>
    rw [List.filter_cons]
    by_cases hy : y = v
    · have := List.length_filter_le (fun x => decide (x ≠ v)) ys
      simp [hy] at this ⊢
      omega
    · rcases List.mem_cons.mp h with rfl | h
      · exact absurd rfl hy
      · simp [hy]
        have := ih h
        simpa using this
theorem sk_free {d : Int} (hd : d ≠ 0) : ∀ (f : Nat) (xs : List Int) (v : Int), xs.length ≤ f → sk d xs f v ∉ xs
  | 0, xs, v, h => by
    have : xs = [] := List.eq_nil_of_length_eq_zero (by omega)
    simp [this]
  | f + 1, xs, v, h => by
    unfold sk
    split
    · rename_i hv
      have ne : ∀ i : Nat, v + d + i * d ≠ v := fun i e => by
        have e2 : ((i : Int) + 1) * d = 0 := by rw [Int.add_mul]; omega
        rcases Int.mul_eq_zero.mp e2 with e3 | e3
        · omega
        · exact hd e3
      have cg : sk d xs f (v + d) = sk d (xs.filter fun x => decide (x ≠ v)) f (v + d) := sk_congr d f (v + d) fun i => by
        have := ne i
        simp [List.mem_filter, this]
      have ih := sk_free hd f (xs.filter fun x => decide (x ≠ v)) (v + d) (by have := filter_ne_lt hv; omega)
      obtain ⟨i, e⟩ := sk_form d xs f (v + d)
      intro q
      rw [← cg] at ih
      refine ih (List.mem_filter.mpr ⟨q, ?_⟩)
      rw [e]
      simpa using ne i
    · assumption
theorem sk_up {xs : List Int} : ∀ (f : Nat) (v : Int), v ≤ sk 1 xs f v ∧ ∀ m, v ≤ m → m < sk 1 xs f v → m ∈ xs
  | 0, v => ⟨Int.le_refl _, fun m h1 h2 => by simp only [sk] at h2; omega⟩
  | f + 1, v => by
    unfold sk
    split
    · rename_i hv
      obtain ⟨i1, i2⟩ := sk_up (xs := xs) f (v + 1)
      refine ⟨by omega, fun m h1 h2 => ?_⟩
      by_cases hm : m = v
      · rw [hm]; exact hv
      · exact i2 m (by omega) h2
    · exact ⟨Int.le_refl _, fun m h1 h2 => by omega⟩
/-- the least natural that is not there -/
def nx (xs : List Int) : Int := sk 1 xs xs.length 0
theorem nx_free (xs : List Int) : nx xs ∉ xs := sk_free (by decide) _ _ _ (Nat.le_refl _)
theorem nx_ge (xs : List Int) : 0 ≤ nx xs := (sk_up _ _).1
theorem nx_below {xs : List Int} {m : Int} (h : 0 ≤ m) (h2 : m < nx xs) : m ∈ xs := (sk_up _ _).2 m h h2
theorem nx_eq {xs : List Int} {n : Int} (h0 : 0 ≤ n) (hf : n ∉ xs) (hb : ∀ m, 0 ≤ m → m < n → m ∈ xs) : nx xs = n := by
  rcases Int.lt_trichotomy (nx xs) n with h | h | h
  · exact absurd (hb _ (nx_ge xs) h) (nx_free xs)
  · exact h
  · exact absurd (nx_below h0 h) hf
theorem nx_congr {xs ys : List Int} (h : ∀ m, m ∈ xs ↔ m ∈ ys) : nx xs = nx ys :=
  nx_eq (nx_ge ys) (fun q => nx_free ys ((h _).mp q)) fun m h1 h2 => (h m).mpr (nx_below h1 h2)
/-! ### rows -/
abbrev Row := List (Option Int)
/-- who tells, from i on -/
def tl : Int → Row → List Int
  | _, [] => []
  | i, none :: r => tl (i + 1) r
  | i, some _ :: r => i :: tl (i + 1) r
theorem tl_len : ∀ (i : Int) (r : Row), (tl i r).length ≤ r.length
  | _, [] => Nat.le_refl _
  | i, none :: r => by simp only [tl, List.length_cons]; have := tl_len (i + 1) r; omega
  | i, some _ :: r => by simp only [tl, List.length_cons]; have := tl_len (i + 1) r; omega
theorem tl_same : ∀ {r q : Row} (i : Int), r.map Option.isSome = q.map Option.isSome → tl i r = tl i q
  | [], [], i, _ => rfl
  | [], b :: q, i, h => by simp at h
  | a :: r, [], i, h => by simp at h
  | a :: r, b :: q, i, h => by
    simp only [List.map_cons, List.cons.injEq] at h
    have ih := tl_same (i + 1) h.2
    cases a <;> cases b <;> first | (simp at h; done) | simp only [tl, ih]
/-- assignments of names -/
abbrev Asg := List (Int × Int)
def look (A : Asg) (v : Int) : Option Int := (A.find? fun q => q.1 = v).map (·.2)
theorem look_nil (v : Int) : look [] v = none := rfl
theorem look_app_old {A B : Asg} {v n : Int} (h : look A v = some n) : look (A ++ B) v = some n := by
  unfold look at h ⊢
  rw [List.find?_append]
  cases e : A.find? fun q => q.1 = v with
  | none => rw [e] at h; cases h
  | some q => rw [e] at h; simpa using h
theorem look_app_new {A B : Asg} {v : Int} (h : look A v = none) : look (A ++ B) v = look B v := by
  unfold look at h ⊢
  rw [List.find?_append]
  cases e : A.find? fun q => q.1 = v with
  | none => simp
  | some q => rw [e] at h; simp at h
theorem look_one {v n w : Int} : look [(v, n)] w = if v = w then some n else none := by
  unfold look
  by_cases h : v = w <;> simp [h]
theorem looked_mem {A : Asg} {v n : Int} (h : look A v = some n) : (v, n) ∈ A := by
  unfold look at h
  obtain ⟨q, e, rfl⟩ := Option.map_eq_some_iff.mp h
  have h1 := List.find?_some e
  have h2 := List.mem_of_find?_eq_some e
  simp only [decide_eq_true_eq] at h1
  rw [← h1]
  exact h2
theorem look_none {A : Asg} {v : Int} (h : look A v = none) : ∀ n, (v, n) ∉ A := fun n m => by
  unfold look at h
  rw [Option.map_eq_none_iff, List.find?_eq_none] at h
  simpa using h _ m
/-- the names behind a row: each value that is not known gets one -/
def asg (fr : Asg → Int) (ks : List Int) : Asg → Row → Asg
  | A, [] => A
  | A, none :: r => asg fr ks A r
  | A, some v :: r => if v ∈ ks then asg fr ks A r else match look A v with
    | some _ => asg fr ks A r
    | none => asg fr ks (A ++ [(v, fr A)]) r
/-- .. the row by these -/
def byA (ks : List Int) (A : Asg) (r : Row) : Row := r.map fun o => o.map fun v => if v ∈ ks then v else (look A v).getD v
/-- the same, one after the other -/
def onl (fr : Asg → Int) (ks : List Int) : Asg → Row → Row
  | _, [] => []
  | A, none :: r => none :: onl fr ks A r
  | A, some v :: r => if v ∈ ks then some v :: onl fr ks A r else match look A v with
    | some n => some n :: onl fr ks A r
    | none => some (fr A) :: onl fr ks (A ++ [(v, fr A)]) r
theorem asg_ext (fr : Asg → Int) (ks : List Int) : ∀ (r : Row) (A : Asg), ∃ B, asg fr ks A r = A ++ B
  | [], A => ⟨[], by simp [asg]⟩
  | none :: r, A => asg_ext fr ks r A
  | some v :: r, A => by
    unfold asg
    split
    · exact asg_ext fr ks r A
    · split
      · exact asg_ext fr ks r A
      · obtain ⟨B, e⟩ := asg_ext fr ks r (A ++ [(v, fr A)])
        exact ⟨[(v, fr A)] ++ B, by rw [e, List.append_assoc]⟩
theorem byA_onl (fr : Asg → Int) (ks : List Int) : ∀ (r : Row) (A : Asg), byA ks (asg fr ks A r) r = onl fr ks A r
  | [], A => rfl
  | none :: r, A => by
    have := byA_onl fr ks r A
    simp only [byA, List.map_cons, asg, onl] at this ⊢
    rw [this]
    rfl
  | some v :: r, A => by
    unfold onl asg
    by_cases hv : v ∈ ks
    · have := byA_onl fr ks r A
      simp only [if_pos hv]
      rw [← this]
      simp [byA, hv]
    · simp only [if_neg hv]
      cases e : look A v with
      | some n =>
        have := byA_onl fr ks r A
        simp only
        rw [← this]
        obtain ⟨B, eB⟩ := asg_ext fr ks r A
        simp [byA, hv, eB, look_app_old e]
      | none =>
        have := byA_onl fr ks r (A ++ [(v, fr A)])
        simp only
        rw [← this]
        obtain ⟨B, eB⟩ := asg_ext fr ks r (A ++ [(v, fr A)])
        have e2 : look (A ++ [(v, fr A)]) v = some (fr A) := by rw [look_app_new e, look_one, if_pos rfl]
        have e3 : look (asg fr ks (A ++ [(v, fr A)]) r) v = some (fr A) := by rw [eB]; exact look_app_old e2
        simp only [byA, List.map_cons, Option.map_some, hv, if_false, e3, Option.getD_some]
/-- the least names -/
def frN (ks : List Int) (A : Asg) : Int := nx (ks ++ A.map (·.2))
abbrev nmr (ks : List Int) : Asg → Row → Row := onl (frN ks) ks
abbrev nmd (ks : List Int) (r : Row) : Row := nmr ks [] r
/-- rows in which the names are least; us: those so far -/
def can (ks : List Int) : List Int → Row → Bool
  | _, [] => true
  | us, none :: r => can ks us r
  | us, some v :: r => if v ∈ ks ∨ v ∈ us then can ks us r else decide (v = nx (ks ++ us)) && can ks (us ++ [v]) r
theorem can_nmr (ks : List Int) : ∀ (r : Row) (A : Asg), can ks (A.map (·.2)) (nmr ks A r) = true
  | [], A => rfl
  | none :: r, A => can_nmr ks r A
  | some v :: r, A => by
    unfold nmr onl
    by_cases hv : v ∈ ks
    · rw [if_pos hv]
      simp only [can, hv, true_or, if_true]
      exact can_nmr ks r A
    · rw [if_neg hv]
      cases e : look A v with
      | some n =>
        have : n ∈ A.map (·.2) := List.mem_map.mpr ⟨(v, n), looked_mem e, rfl⟩
        simp only [can, this, or_true, if_true]
        exact can_nmr ks r A
      | none =>
        have hf := nx_free (ks ++ A.map (·.2))
        rw [List.mem_append] at hf
        have ih := can_nmr ks r (A ++ [(v, frN ks A)])
        rw [List.map_append] at ih
        simp only [can]
        rw [if_neg (show ¬ (frN ks A ∈ ks ∨ frN ks A ∈ A.map (·.2)) from hf)]
        simp only [frN, decide_true, Bool.true_and]
        exact ih
theorem nmr_can (ks : List Int) : ∀ (r : Row) (us : List Int), can ks us r = true → nmr ks (us.map fun u => (u, u)) r = r
  | [], us, _ => rfl
  | none :: r, us, h => by
    show none :: nmr ks _ r = _
    rw [nmr_can ks r us h]
  | some v :: r, us, h => by
    have lk : look (us.map fun u => (u, u)) v = if v ∈ us then some v else none := by
      clear h
      induction us with
      | nil => rfl
      | cons u us ih =>
        rw [List.map_cons, show (u, u) :: us.map (fun u => (u, u)) = [(u, u)] ++ us.map (fun u => (u, u)) from rfl]
        by_cases hu : u = v
        · rw [look_app_old (n := v) (by rw [look_one, if_pos hu, hu])]
          simp [hu]
        · rw [look_app_new (by rw [look_one, if_neg hu]), ih]
          have : ¬ v = u := fun e => hu e.symm
          simp [this]
    unfold can at h
    unfold nmr onl
    by_cases hv : v ∈ ks
    · rw [if_pos hv]
      rw [if_pos (.inl hv)] at h
      rw [show onl (frN ks) ks _ r = r from nmr_can ks r us h]
    · rw [if_neg hv, lk]
      by_cases hu : v ∈ us
      · rw [if_pos hu]
        rw [if_pos (.inr hu)] at h
        simp only
        rw [show onl (frN ks) ks _ r = r from nmr_can ks r us h]
      · rw [if_neg hu]
        rw [if_neg (by simp [hv, hu])] at h
        simp only [Bool.and_eq_true, decide_eq_true_eq] at h
        have e1 : frN ks (us.map fun u => (u, u)) = v := by
          unfold frN
          rw [List.map_map]
          have : us.map ((fun q : Int × Int => q.2) ∘ fun u => (u, u)) = us := by simp [Function.comp_def]
          rw [this]
          exact h.1.symm
        have ih := nmr_can ks r (us ++ [v]) h.2
        rw [List.map_append, List.map_cons, List.map_nil] at ih
        simp only [e1]
        rw [show onl (frN ks) ks _ r = r from ih]
theorem nmd_nmd (ks : List Int) (r : Row) : nmd ks (nmd ks r) = nmd ks r := nmr_can ks _ [] (can_nmr ks r [])
theorem nmd_can (ks : List Int) (r : Row) : nmd ks r = r ↔ can ks [] r = true :=
  ⟨fun h => by have := can_nmr ks r []; rw [show nmr ks [] r = r from h] at this; exact this, fun h => nmr_can ks r [] h⟩
theorem onl_some (fr : Asg → Int) (ks : List Int) : ∀ (r : Row) (A : Asg), (onl fr ks A r).map Option.isSome = r.map Option.isSome
  | [], A => rfl
  | none :: r, A => by simp [onl, onl_some fr ks r A]
  | some v :: r, A => by
    unfold onl
    split
    · simp [onl_some fr ks r A]
    · split
      · simp [onl_some fr ks r A]
      · simp [onl_some fr ks r]
theorem onl_len (fr : Asg → Int) (ks : List Int) (r : Row) (A : Asg) : (onl fr ks A r).length = r.length := by
  have := congrArg List.length (onl_some fr ks r A)
  simpa using this
/-! ### other values for those that are not known -/
/-- keys, and two names for each -/
theorem nmr_move (fr : Asg → Int) (ks : List Int) (hk : ∀ A, fr A ∉ ks) (hu : ∀ A, fr A ∉ A.map (·.2)) : ∀ (r : Row) (T : List (Int × Int × Int)),
    (∀ q ∈ T, q.2.1 ∉ ks) → (T.map fun q => q.2.1).Nodup → nmr ks (T.map fun q => (q.2.1, q.2.2)) (onl fr ks (T.map fun q => (q.1, q.2.1)) r) = nmr ks (T.map fun q => (q.1, q.2.2)) r
  | [], T, _, _ => rfl
  | none :: r, T, h1, h2 => by
    show none :: nmr ks _ (onl fr ks _ r) = none :: nmr ks _ r
    rw [nmr_move fr ks hk hu r T h1 h2]
  | some v :: r, T, h1, h2 => by
    have ih := nmr_move fr ks hk hu r T h1 h2
    have frE : frN ks (T.map fun q => (q.2.1, q.2.2)) = frN ks (T.map fun q => (q.1, q.2.2)) := by simp only [frN, List.map_map, Function.comp_def]
    by_cases hv : v ∈ ks
    · simp only [onl, if_pos hv, nmr] at ih ⊢
      rw [ih]
    · -- where v stands
      have key : (look (T.map fun q => (q.1, q.2.1)) v = none ∧ look (T.map fun q => (q.1, q.2.2)) v = none) ∨ ∃ m n, look (T.map fun q => (q.1, q.2.1)) v = some m ∧ look (T.map fun q => (q.1, q.2.2)) v = some n ∧ look (T.map fun q => (q.2.1, q.2.2)) m = some n ∧ m ∉ ks := by
        clear ih frE
        induction T with
        | nil => exact .inl ⟨rfl, rfl⟩
        | cons q T ihT =>
          obtain ⟨a, b, c⟩ := q
          have e1 : ∀ (f : Int × Int × Int → Int × Int), (((a, b, c) :: T).map f) = [f (a, b, c)] ++ T.map f := fun f => rfl
          rw [e1, e1, e1]
          simp only
          by_cases ha : a = v
          · refine .inr ⟨b, c, ?_, ?_, ?_, h1 _ (List.mem_cons_self ..)⟩
            · exact look_app_old (by rw [look_one, if_pos ha])
            · exact look_app_old (by rw [look_one, if_pos ha])
            · exact look_app_old (by rw [look_one, if_pos rfl])
          · rw [look_app_new (by rw [look_one, if_neg ha]), look_app_new (by rw [look_one, if_neg ha])]
            rw [List.map_cons, List.nodup_cons] at h2
            rcases ihT (fun q hq => h1 q (List.mem_cons_of_mem _ hq)) h2.2 with h | ⟨m, n, i1, i2, i3, i4⟩
            · exact .inl h
            · refine .inr ⟨m, n, i1, i2, ?_, i4⟩
              have hm : m ∈ T.map fun q => q.2.1 := by
                have := looked_mem i1
                obtain ⟨q, hq, e⟩ := List.mem_map.mp this
                simp only [Prod.mk.injEq] at e
                exact List.mem_map.mpr ⟨q, hq, e.2⟩
              have hb : ¬ b = m := fun e => h2.1 (e ▸ hm)
              rw [look_app_new (by rw [look_one, if_neg hb])]
              exact i3
      rcases key with ⟨k1, k2⟩ | ⟨m, n, k1, k2, k3, k4⟩
      · -- new
        have nk := hk (T.map fun q => (q.1, q.2.1))
        have nu := hu (T.map fun q => (q.1, q.2.1))
        rw [List.map_map] at nu
        generalize hm : fr (T.map fun q => (q.1, q.2.1)) = m at nk nu
        have nu : m ∉ T.map fun q => q.2.1 := nu
        have k3 : look (T.map fun q => (q.2.1, q.2.2)) m = none := by
          cases e : look (T.map fun q => (q.2.1, q.2.2)) m with
          | none => rfl
          | some n =>
            obtain ⟨q, hq, e2⟩ := List.mem_map.mp (looked_mem e)
            simp only [Prod.mk.injEq] at e2
            exact absurd (List.mem_map.mpr ⟨q, hq, e2.1⟩) nu
        have ih2 := nmr_move fr ks hk hu r (T ++ [(v, m, frN ks (T.map fun q => (q.1, q.2.2)))]) (fun q hq => by
          rcases List.mem_append.mp hq with hq | hq
          · exact h1 q hq
          · rw [List.mem_singleton.mp hq]; exact nk) (by
          rw [List.map_append, List.nodup_append]
          refine ⟨h2, by simp, fun a ha b hb => ?_⟩
          simp only [List.map_cons, List.map_nil, List.mem_singleton] at hb
          rw [hb]
          exact fun e => nu (e ▸ ha))
        simp only [List.map_append, List.map_cons, List.map_nil] at ih2
        simp only [nmr, onl, if_neg hv, k1, k2, hm, if_neg nk, k3, frE] at ih2 ⊢
        rw [ih2]
      · simp only [nmr, onl, if_neg hv, k1, k2, if_neg k4, k3] at ih ⊢
        rw [ih]
theorem nmd_move (fr : Asg → Int) (ks : List Int) (hk : ∀ A, fr A ∉ ks) (hu : ∀ A, fr A ∉ A.map (·.2)) (r : Row) : nmd ks (onl fr ks [] r) = nmd ks r :=
  nmr_move fr ks hk hu r [] (by simp) (by simp)
end EV

set_option Elab.async false
set_option linter.all false
set_option maxRecDepth 100000
set_option maxHeartbeats 4000000
/-! all rows with least names, two ways. -/
namespace EV
/-! ### ascending lists -/
theorem insI_mem (i x : Int) : ∀ js : List Int, x ∈ insI i js ↔ x = i ∨ x ∈ js
  | [] => by simp [insI]
  | j :: js => by
    unfold insI
    split
    · simp
    · simp only [List.mem_cons, insI_mem i x js]
      constructor
      · rintro (h | h | h) <;> simp [h]
      · rintro (h | h | h) <;> simp [h]
theorem sortI_mem (x : Int) : ∀ is : List Int, x ∈ sortI is ↔ x ∈ is
  | [] => by simp [sortI]
  | i :: is => by simp only [sortI, insI_mem, sortI_mem x is, List.mem_cons]
abbrev Asc (xs : List Int) : Prop := xs.Pairwise (· < ·)
theorem insI_asc {i : Int} : ∀ {js : List Int}, Asc js → i ∉ js → Asc (insI i js)
  | [], _, _ => by simp [insI]
  | j :: js, h, n => by
    have hj := List.pairwise_cons.mp h
    simp only [List.mem_cons, not_or] at n
    unfold insI
    split
    · rename_i hij
      refine List.pairwise_cons.mpr ⟨fun k hk => ?_, h⟩
      rcases List.mem_cons.mp hk with rfl | hk
      · omega
      · have := hj.1 k hk; omega
    · rename_i hij
      refine List.pairwise_cons.mpr ⟨fun k hk => ?_, insI_asc hj.2 n.2⟩
      rcases (insI_mem i k js).mp hk with rfl | hk
      · omega
      · exact hj.1 k hk
theorem sortI_asc : ∀ {is : List Int}, is.Nodup → Asc (sortI is)
  | [], _ => .nil
  | i :: is, h => by
    have := List.nodup_cons.mp h
    exact insI_asc (sortI_asc this.2) fun m => this.1 ((sortI_mem i is).mp m)
theorem asc_ext : ∀ {a b : List Int}, Asc a → Asc b → (∀ x, x ∈ a ↔ x ∈ b) → a = b
  | [], [], _, _, _ => rfl
  | [], y :: b, _, _, h => by have := (h y).mpr (List.mem_cons_self ..); simp at this
  | x :: a, [], _, _, h => by have := (h x).mp (List.mem_cons_self ..); simp at this
  | x :: a, y :: b, ha, hb, h => by
    have ha' := List.pairwise_cons.mp ha
    have hb' := List.pairwise_cons.mp hb
    have e : x = y := by
      have h1 := (h x).mp (List.mem_cons_self ..)
      have h2 := (h y).mpr (List.mem_cons_self ..)
      rcases List.mem_cons.mp h1 with e | h1
      · exact e
      · rcases List.mem_cons.mp h2 with e | h2
        · exact e.symm
        · have := ha'.1 y h2
          have := hb'.1 x h1
          omega
    subst e
    rw [asc_ext ha'.2 hb'.2 fun z => ?_]
    have := h z
    simp only [List.mem_cons] at this
    constructor
    · intro hz
      rcases this.mp (.inr hz) with e | hz'
      · have := ha'.1 z hz; omega
      · exact hz'
    · intro hz
      rcases this.mpr (.inr hz) with e | hz'
      · have := hb'.1 z hz; omega
      · exact hz'
theorem asc_nodup {a : List Int} (h : Asc a) : a.Nodup := h.imp fun h => by omega
/-! ### all rows by the program -/
def more (fr : Int) (us : List Int) (one : Int) : List Int := if one = fr then us ++ [fr] else us
def cf (ks : List Int) : Nat → List Int → List Row
  | 0, _ => [[]]
  | w + 1, us => (cf ks w us).map (none :: ·) ++ (sortI (ks ++ us ++ [nx (ks ++ us)])).flatMap fun one => (cf ks w (more (nx (ks ++ us)) us one)).map (some one :: ·)
theorem mem_cf (ks : List Int) : ∀ (w : Nat) (us : List Int) (r : Row), r ∈ cf ks w us ↔ r.length = w ∧ can ks us r = true
  | 0, us, r => by
    cases r with
    | nil => simp [cf, can]
    | cons a r => simp [cf]
  | w + 1, us, r => by
    have hf := nx_free (ks ++ us)
    rw [List.mem_append] at hf
    cases r with
    | nil => simp [cf]
    | cons a r =>
      cases a with
      | none =>
        have := mem_cf ks w us r
        simp only [cf, List.mem_append, List.mem_map, List.mem_flatMap, List.cons.injEq, List.length_cons, can]
        constructor
        · rintro (⟨q, hq, _, rfl⟩ | ⟨one, _, q, hq, e, _⟩)
          · have := this.mp hq; exact ⟨by omega, this.2⟩
          · cases e
        · rintro ⟨h1, h2⟩
          exact .inl ⟨r, this.mpr ⟨by omega, h2⟩, by simp⟩
      | some v =>
        simp only [cf, List.mem_append, List.mem_map, List.mem_flatMap, List.cons.injEq, List.length_cons, can, sortI_mem, List.mem_singleton]
        by_cases hv : v ∈ ks ∨ v ∈ us
        · have hne : v ≠ nx (ks ++ us) := fun e => hf (e ▸ hv)
          have := mem_cf ks w us r
          rw [if_pos hv]
          constructor
          · rintro (⟨q, hq, e, _⟩ | ⟨one, _, q, hq, e, rfl⟩)
            · cases e
            · cases e
              simp only [more, if_neg hne] at hq
              have := this.mp hq
              exact ⟨by omega, this.2⟩
          · rintro ⟨h1, h2⟩
            refine .inr ⟨v, .inl hv, r, ?_, rfl, rfl⟩
            simp only [more, if_neg hne]
            exact this.mpr ⟨by omega, h2⟩
        · rw [if_neg hv]
          have := mem_cf ks w (us ++ [nx (ks ++ us)]) r
          constructor
          · rintro (⟨q, hq, e, _⟩ | ⟨one, ho, q, hq, e, rfl⟩)
            · cases e
            · cases e
              have e2 : v = nx (ks ++ us) := ho.resolve_left hv
              simp only [more, if_pos e2] at hq
              have := this.mp hq
              refine ⟨by omega, ?_⟩
              rw [decide_eq_true e2, Bool.true_and, e2]
              exact this.2
          · rintro ⟨h1, h2⟩
            rw [Bool.and_eq_true, decide_eq_true_eq] at h2
            refine .inr ⟨v, .inr h2.1, r, ?_, rfl, rfl⟩
            simp only [more, if_pos h2.1]
            refine this.mpr ⟨by omega, ?_⟩
            rw [← h2.1]
            exact h2.2
/-! ### .. and by the law -/
def ar (V : List Int) : Nat → List Row
  | 0 => [[]]
  | w + 1 => (none :: V.map some).flatMap fun o => (ar V w).map (o :: ·)
theorem flatMap_filter {α β : Type} {p : α → Bool} {f : α → List β} : ∀ {xs : List α}, (∀ x ∈ xs, p x = false → f x = []) → xs.flatMap f = (xs.filter p).flatMap f
  | [], _ => rfl
  | x :: xs, h => by
    have ih := flatMap_filter (p := p) (f := f) (xs := xs) fun y hy => h y (List.mem_cons_of_mem _ hy)
    rw [List.flatMap_cons, List.filter_cons]
    split
    · rw [List.flatMap_cons, ih]
    · rename_i hp
      rw [h x (List.mem_cons_self ..) (by simpa using hp), ih]
      rfl
theorem flatMap_congr' {α β : Type} {f g : α → List β} : ∀ {xs : List α}, (∀ x ∈ xs, f x = g x) → xs.flatMap f = xs.flatMap g
  | [], _ => rfl
  | x :: xs, h => by
    rw [List.flatMap_cons, List.flatMap_cons, h x (List.mem_cons_self ..), flatMap_congr' fun y hy => h y (List.mem_cons_of_mem _ hy)]
/-- the law's values hold what is wanted -/
def Good (ks V : List Int) : Nat → List Int → Prop
  | 0, _ => True
  | w + 1, us => (∀ v, v ∈ ks ∨ v ∈ us ∨ v = nx (ks ++ us) → v ∈ V) ∧ (ks ++ us ++ [nx (ks ++ us)]).Nodup ∧ Good ks V w us ∧ Good ks V w (us ++ [nx (ks ++ us)])
theorem ar_cf {ks V : List Int} (hV : Asc V) : ∀ (w : Nat) (us : List Int), Good ks V w us → (ar V w).filter (can ks us) = cf ks w us
  | 0, us, _ => by simp [ar, cf, can]
  | w + 1, us, ⟨g1, gn, g2, g3⟩ => by
    have hf := nx_free (ks ++ us)
    rw [List.mem_append] at hf
    have i1 := ar_cf hV w us g2
    have i2 := ar_cf hV w _ g3
    generalize hfr : nx (ks ++ us) = fr at *
    have st : V.filter (fun v => decide (v ∈ ks ∨ v ∈ us ∨ v = fr)) = sortI (ks ++ us ++ [fr]) := by
      refine asc_ext (hV.sublist (List.filter_sublist ..)) (sortI_asc gn) fun x => ?_
      rw [List.mem_filter, sortI_mem, decide_eq_true_eq, List.mem_append, List.mem_append, List.mem_singleton]
      constructor
      · rintro ⟨_, h | h | h⟩
        · exact .inl (.inl h)
        · exact .inl (.inr h)
        · exact .inr h
      · intro h
        have : x ∈ ks ∨ x ∈ us ∨ x = fr := by
          rcases h with (h | h) | h
          · exact .inl h
          · exact .inr (.inl h)
          · exact .inr (.inr h)
        exact ⟨g1 x this, this⟩
    rw [ar, List.flatMap_cons, List.filter_append, cf, hfr]
    congr 1
    · rw [List.filter_map, ← i1]
      rfl
    · rw [List.filter_flatMap, List.flatMap_map, flatMap_filter (p := fun v => decide (v ∈ ks ∨ v ∈ us ∨ v = fr)), st]
      · refine flatMap_congr' fun v hv => ?_
        rw [sortI_mem, List.mem_append, List.mem_append, List.mem_singleton] at hv
        rw [List.filter_map]
        congr 1
        by_cases hk : v ∈ ks ∨ v ∈ us
        · have hne : v ≠ fr := fun e => hf (e ▸ hk)
          rw [more, if_neg hne, ← i1]
          refine List.filter_congr fun r _ => ?_
          simp [Function.comp, can, hk]
        · have e : v = fr := hv.resolve_left hk
          rw [more, if_pos e, ← i2]
          refine List.filter_congr fun r _ => ?_
          rw [e] at hk
          simp only [Function.comp, can, e, if_neg hk, hfr, decide_true, Bool.true_and]
      · intro v _ hp
        rw [decide_eq_false_iff_not, not_or, not_or] at hp
        rw [List.filter_map, List.map_eq_nil_iff, List.filter_eq_nil_iff]
        intro r _
        simp only [Function.comp, can, if_neg (show ¬ (v ∈ ks ∨ v ∈ us) by simp [hp.1, hp.2.1]), hfr, decide_eq_false hp.2.2, Bool.false_and]
        exact Bool.false_ne_true
/-! ### the law's values -/
/-- naturals below n that are not known -/
def fresh (ks : List Int) (n : Nat) : List Int := ((List.range n).map Int.ofNat).filter fun v => decide (v ∉ ks)
theorem range_asc (n : Nat) : Asc ((List.range n).map Int.ofNat) := by
  show List.Pairwise _ _
  rw [List.pairwise_map]
  exact List.pairwise_lt_range.imp fun h => by simpa using h
theorem fresh_asc (ks : List Int) (n : Nat) : Asc (fresh ks n) := (range_asc n).sublist (List.filter_sublist ..)
theorem fresh_mem {ks : List Int} {n : Nat} {v : Int} : v ∈ fresh ks n ↔ (0 ≤ v ∧ v < n) ∧ v ∉ ks := by
  unfold fresh
  rw [List.mem_filter, decide_eq_true_eq, List.mem_map]
  constructor
  · rintro ⟨⟨a, h1, rfl⟩, h2⟩
    rw [List.mem_range] at h1
    exact ⟨⟨Int.natCast_nonneg a, by simpa using h1⟩, h2⟩
  · rintro ⟨⟨h1, h2⟩, h3⟩
    exact ⟨⟨v.toNat, List.mem_range.mpr (by omega), by simpa using Int.toNat_of_nonneg h1⟩, h3⟩
theorem filter_ne_len {k : Int} : ∀ {M : List Int}, M.Nodup → M.length ≤ (M.filter fun x => decide (x ≠ k)).length + 1
  | [], _ => by simp
  | x :: M, h => by
    have hx := List.nodup_cons.mp h
    rw [List.filter_cons]
    by_cases e : x = k
    · have : (M.filter fun x => decide (x ≠ k)) = M := List.filter_eq_self.mpr fun y hy => by
        have : y ≠ k := fun q => hx.1 (by rw [e, ← q]; exact hy)
        simpa using this
      rw [this]
      simp [e]
    · have := filter_ne_len (k := k) hx.2
      simp only [decide_eq_true (show x ≠ k from e), if_true, List.length_cons]
      omega
theorem filter_out_len {L : List Int} (hL : L.Nodup) : ∀ ks : List Int, L.length ≤ (L.filter fun v => decide (v ∉ ks)).length + ks.length
  | [] => by
    have : (L.filter fun v => decide (v ∉ ([] : List Int))) = L := List.filter_eq_self.mpr fun x _ => by simp
    rw [this]
    simp
  | k :: ks => by
    have ih := filter_out_len hL ks
    have e : (L.filter fun v => decide (v ∉ k :: ks)) = (L.filter fun v => decide (v ∉ ks)).filter fun x => decide (x ≠ k) := by
      rw [List.filter_filter]
      refine List.filter_congr fun x _ => ?_
      rw [Bool.eq_iff_iff]
      simp
    have := filter_ne_len (k := k) (hL.sublist (List.filter_sublist (p := fun v => decide (v ∉ ks))))
    rw [e, List.length_cons]
    omega
theorem fresh_len (ks : List Int) (w : Nat) : w ≤ (fresh ks (w + ks.length)).length := by
  have := filter_out_len (asc_nodup (range_asc (w + ks.length))) ks
  simp only [List.length_map, List.length_range] at this
  unfold fresh
  omega
/-- the j-th fresh name is the next one behind those before -/
theorem nx_fresh {ks : List Int} {n j : Nat} {x : Int} (hx : (fresh ks n)[j]? = some x) : nx (ks ++ (fresh ks n).take j) = x := by
  obtain ⟨hj, ex⟩ := List.getElem?_eq_some_iff.mp hx
  have asc := fresh_asc ks n
  have mx : x ∈ fresh ks n := List.mem_of_getElem? hx
  obtain ⟨⟨h0, h1⟩, h2⟩ := fresh_mem.mp mx
  refine nx_eq h0 (fun m => ?_) fun m m0 m1 => ?_
  · rcases List.mem_append.mp m with m | m
    · exact h2 m
    · obtain ⟨i, hi, ei⟩ := List.getElem_of_mem m
      rw [List.length_take] at hi
      rw [List.getElem_take] at ei
      have := List.pairwise_iff_getElem.mp asc i j (by omega) hj (by omega)
      omega
  · rw [List.mem_append]
    by_cases hk : m ∈ ks
    · exact .inl hk
    · right
      have mm : m ∈ fresh ks n := fresh_mem.mpr ⟨⟨m0, by omega⟩, hk⟩
      obtain ⟨i, hi, ei⟩ := List.getElem_of_mem mm
      have hij : i < j := by
        rcases Nat.lt_trichotomy i j with h | h | h
        · exact h
        · subst h; omega
        · have := List.pairwise_iff_getElem.mp asc j i hj hi h
          omega
      rw [List.mem_take_iff_getElem]
      exact ⟨i, by omega, ei⟩
theorem good_fresh {ks V : List Int} (hk : ks.Nodup) {n W : Nat} (hW : W ≤ (fresh ks n).length) (hV : ∀ v, v ∈ ks ∨ v ∈ (fresh ks n).take W → v ∈ V) : ∀ (w j : Nat), j + w ≤ W → Good ks V w ((fresh ks n).take j)
  | 0, _, _ => trivial
  | w + 1, j, h => by
    have hj : j < (fresh ks n).length := by omega
    have e1 := nx_fresh (ks := ks) (List.getElem?_eq_getElem hj)
    have e2 : (fresh ks n).take j ++ [(fresh ks n)[j]] = (fresh ks n).take (j + 1) := by rw [List.take_append_getElem]
    refine ⟨fun v hv => hV v ?_, ?_, good_fresh hk hW hV w j (by omega), ?_⟩
    · rcases hv with hv | hv | hv
      · exact .inl hv
      · exact .inr ((List.take_sublist_take_left (by omega : j ≤ W)).subset hv)
      · right
        rw [e1] at hv
        rw [hv, List.mem_take_iff_getElem]
        exact ⟨j, by omega, rfl⟩
    · rw [e1, List.append_assoc, e2, List.nodup_append]
      refine ⟨hk, asc_nodup ((fresh_asc ks n).sublist (List.take_sublist ..)), fun a ha b hb => ?_⟩
      have := (fresh_mem.mp (List.mem_of_mem_take hb)).2
      exact fun e => this (e ▸ ha)
    · rw [e1, e2]
      exact good_fresh hk hW hV w (j + 1) (by omega)
/-- all bare contents, two ways -/
theorem contents_eq {ks : List Int} (hk : ks.Nodup) (w : Nat) : (ar (sortI (ks ++ (fresh ks (w + ks.length)).take w)) w).filter (fun r => decide (nmd ks r = r)) = cf ks w [] := by
  have hn : (ks ++ (fresh ks (w + ks.length)).take w).Nodup := by
    rw [List.nodup_append]
    refine ⟨hk, asc_nodup ((fresh_asc ks _).sublist (List.take_sublist ..)), fun a ha b hb => ?_⟩
    have := (fresh_mem.mp (List.mem_of_mem_take hb)).2
    exact fun e => this (e ▸ ha)
  rw [← ar_cf (sortI_asc hn) w [] (by
    have := good_fresh (V := sortI (ks ++ (fresh ks (w + ks.length)).take w)) hk (n := w + ks.length) (W := w) (fresh_len ks w) (fun v hv => by rw [sortI_mem, List.mem_append]; exact hv) w 0 (by omega)
    simpa using this)]
  refine List.filter_congr fun r _ => ?_
  rw [Bool.eq_iff_iff, decide_eq_true_eq]
  exact nmd_can ks r
end EV

set_option Elab.async false
set_option linter.all false
set_option maxRecDepth 100000
set_option maxHeartbeats 4000000
/-! scenes: what the defs of the program's first part come to. -/
namespace EV
open PySem
theorem lim_of {n : Nat} (h : n ≤ 200000) : n ≤ lim := Nat.le_trans h (by decide)
theorem lim_lt {n : Nat} (h : n ≤ 200000) : Nat.blt n lim = true := Nat.ble_eq.mpr (Nat.le_trans (Nat.succ_le_succ h) (by decide))
def od : Option Int → D
  | none => .non
  | some i => .int i
abbrev rowD (r : Row) : D := .tup (r.map od)
abbrev ordD (o : List Int) : D := .tup (o.map .int)
@[simp] theorem od_none : od none = .non := id rfl
@[simp] theorem od_some (i : Int) : od (some i) = .int i := id rfl
@[simp] theorem undr_od (n : Nat) (o : Option Int) : D.undr n (od o) = true := by cases o <;> rfl
@[simp] theorem undrs_row (n : Nat) (r : Row) : D.undrs n (r.map od) = true := undrs_map fun _ _ => undr_od ..
@[simp] theorem isNon_od (o : Option Int) : isNon (od o) = o.isNone := by cases o <;> rfl
theorem okT_od (o : Option Int) : okT (od o) = true := by cases o <;> rfl
theorem dep_od (o : Option Int) : dep (od o) = 0 := by cases o <;> rfl
theorem okTs_row (r : Row) : okTs (r.map od) = true := okTs_map fun _ _ => okT_od _
theorem deps_row (r : Row) : deps (r.map od) = 0 := Nat.le_zero.mp (deps_le fun _ _ => Nat.le_of_eq (dep_od _))
theorem od_inj : ∀ a b, od a = od b → a = b := by
  intro a b h
  cases a <;> cases b <;> simp_all
theorem row_beq (r q : Row) : D.beqs (r.map od) (q.map od) = decide (r = q) := by
  rw [Bool.eq_iff_iff, beqs_inj od_inj, decide_eq_true_eq]
theorem bls_true {α : Type} (xs : List α) : blsOf (xs.map fun _ => D.bl true) = some (xs.map fun _ => true) := by
  induction xs with
  | nil => rfl
  | cons a r ih => simp [blsOf, ih]
theorem bls_map {α : Type} (q : α → Bool) (xs : List α) : blsOf (xs.map fun a => D.bl (q a)) = some (xs.map q) := by
  induction xs with
  | nil => rfl
  | cons a r ih => simp [blsOf, ih]
section
variable {g : List D} {s : List (List Sl)} {f : List Fn} {ab : List Nat} {k : Nat} {h : Hs}
/-! ### values -/
theorem run0 {a : D} : run (PF.mk g s f ab) (k + 1) 0 [a] [] = endS 0 (exSs (Ek g s f ab k) PF.b0 [some a] []) := rfl
theorem r_isv {i : Int} : run (PF.mk g s f ab) (k + 1) 0 [.int i] [] = .ok (.bl true) [] := by
  rw [run0]
  simp [PF.b0]
theorem r_isv0 : run (PF.mk g s f ab) (k + 1) 0 [.non] [] = .ok (.bl false) [] := by
  rw [run0]
  simp [PF.b0, tyOk]
@[simp] theorem c_isv {i : Int} : callP (Ek g s f ab (k + 1)) 0 [.int i] h = .ok (.bl true) h := callE r_isv rfl
@[simp] theorem c_isv0 : callP (Ek g s f ab (k + 1)) 0 [.non] h = .ok (.bl false) h := callE r_isv0 rfl
theorem run1 {a b : D} : run (PF.mk g s f ab) (k + 1) 1 [a, b] [] = endS 0 (exSs (Ek g s f ab k) PF.b1 [some a, some b] []) := rfl
theorem r_num {i n : Int} : run (PF.mk g s f ab) (k + 2) 1 [.int i, .int n] [] = .ok (.bl (decide (0 ≤ i) && decide (i < n))) [] := by
  rw [run1]
  by_cases h : 0 ≤ i <;> simp [PF.b1, PF.shs, arr, arr1, h]
@[simp] theorem c_num {i n : Int} : callP (Ek g s f ab (k + 2)) 1 [.int i, .int n] h = .ok (.bl (decide (0 ≤ i) && decide (i < n))) h := callE r_num rfl
/-! ### contents, orders, scenes -/
theorem run2 {a b : D} : run (PF.mk g s f ab) (k + 1) 2 [a, b] [] = endS 0 (exSs (Ek g s f ab k) PF.b2 [some a, some b, none] []) := rfl
theorem r_cont {r : Row} (hr : r.length ≤ 1000) : run (PF.mk g s f ab) (k + 2) 2 [rowD r, .int r.length] [] = .ok (.bl true) [] := by
  rw [run2]
  have l : ∀ L : Lc, L.length = 3 → lcLoop ⟨r.map od, []⟩ (lcStep (Ek g s f ab (k + 1)) [2] (.name 2) .nil (.or (.cmp .Is (.var 2) .cnon) (.call 0 0 (.cons (.var 2) .nil) .nil)) L) (r.map od) [] = .ok (r.map fun _ => .bl true) [] := by
    intro L hL
    refine lc_map rfl r fun o _ => lcStep_all rfl ?_
    cases o <;> simp [hL, arr, arr1, PF.shs]
  simp [PF.b2, l, newL_f, lim_of (show r.length ≤ 200000 by omega), all_bls (bls_true r)]
@[simp] theorem c_cont {r : Row} (hr : r.length ≤ 1000) : callP (Ek g s f ab (k + 2)) 2 [rowD r, .int r.length] h = .ok (.bl true) h := callE (r_cont hr) (by simp)
theorem lc_tell (E : Ev) {src : Src} {L : Lc} {a b : Nat} (hc : chk src h = true) (hab : a < L.length) (hb : b < L.length) (ne : a ≠ b) : ∀ (r : Row) (i : Int), lcLoop src (lcStep E [a, b] (.tup [a, b]) (.cons (.cmp .IsNot (.var b) .cnon) .nil) (.var a) L) (enumD i (r.map od)) h = .ok ((tl i r).map .int) h
  | [], i => by simp [enumD, lcLoop, hc, tl]
  | x :: r, i => by
    have st : lcStep E [a, b] (.tup [a, b]) (.cons (.cmp .IsNot (.var b) .cnon) .nil) (.var a) L (.tup [.int i, od x]) h = .ok (if (!x.isNone) = true then some (.int i) else none) h := by
      refine lcStep_if rfl ?_ fun _ => ?_
      · simp [hb, ne]
      · have e : (((wipeL [a, b] L).set a (some (D.int i))).set b (some (od x)))[a]? = some (some (.int i)) := by
          rw [List.getElem?_set_ne (show b ≠ a from fun e => ne e.symm), List.getElem?_set_self (by simpa using hab)]
        rw [ex_var, tst_f]
        exact congrArg (fun z => varR z h) e
    rw [List.map_cons]
    simp only [enumD, lcLoop, hc, if_true, st, strip, R.bind, lc_tell E hc hab hb ne r (i + 1)]
    cases x <;> simp [tl]
theorem run3 {a b : D} : run (PF.mk g s f ab) (k + 1) 3 [a, b] [] = endS 0 (exSs (Ek g s f ab k) PF.b3 [some a, some b, none, none, none] []) := rfl
/-- whether an order is one of a row -/
def isOrd (os : List Int) (r : Row) : Bool := (os.all fun i => decide (0 ≤ i) && decide (i < (r.length : Int))) && decide (sortI os = tl 0 r)
theorem ints_beq (a b : List Int) : D.beqs (a.map .int) (b.map .int) = decide (a = b) := by
  rw [Bool.eq_iff_iff, beqs_inj (fun a b h => by simpa using h), decide_eq_true_eq]
theorem r_order {r : Row} {os : List Int} (hr : r.length ≤ 1000) (ho : os.length ≤ 1000) : run (PF.mk g s f ab) (k + 3) 3 [ordD os, rowD r] [] = .ok (.bl (isOrd os r)) [] := by
  rw [run3]
  have l : ∀ a b c d : Option D, lcLoop ⟨os.map .int, []⟩ (lcStep (Ek g s f ab (k + 2)) [4] (.name 4) .nil (.call 1 1 (.cons (.var 4) (.cons (.blt .len (.cons (.var 1) .nil)) .nil)) .nil) [a, some (rowD r), b, c, d]) (os.map .int) [] = .ok (os.map fun i => .bl (decide (0 ≤ i) && decide (i < (r.length : Int)))) [] := by
    intro a b c d
    refine lc_map rfl os fun i _ => lcStep_all rfl ?_
    simp [arr, arr1, PF.shs]
  have l2 : ∀ a b c d e : Option D, lcLoop ⟨os.map .int, []⟩ (lcStep (Ek g s f ab (k + 2)) [4] (.name 4) .nil (.blt .int (.cons (.var 4) .nil)) [a, b, c, d, e]) (os.map .int) [] = .ok (os.map .int) [] := by
    intro a b c d e
    refine lc_map rfl os fun i _ => lcStep_all rfl ?_
    simp
  have l3 : ∀ L : Lc, L.length = 5 → lcLoop ⟨enumD 0 (r.map od), []⟩ (lcStep (Ek g s f ab (k + 2)) [3, 4] (.tup [3, 4]) (.cons (.cmp .IsNot (.var 4) .cnon) .nil) (.var 3) L) (enumD 0 (r.map od)) [] = .ok ((tl 0 r).map .int) [] := fun L hL => lc_tell _ rfl (by omega) (by omega) (by decide) r 0
  have t1 := tl_len 0 r
  have b1 := bls_map (fun i : Int => decide (0 ≤ i) && decide (i < (r.length : Int))) os
  unfold isOrd
  cases hb : (os.all fun i => decide (0 ≤ i) && decide (i < (r.length : Int))) with
  | false => simp [PF.b3, l, newL_f, lim_of (show os.length ≤ 200000 by omega), all_bls b1, List.all_map, Function.comp_def, hb]
  | true =>
    have e : opEq [] (.lst ((sortI os).map .int)) (.lst ((tl 0 r).map .int)) = some (decide (sortI os = tl 0 r)) := by
      rw [opEq_lst rfl rfl (okTs_ints _) (okTs_ints _) (by simp) (by simp), ints_beq]
    simp [PF.b3, l, l2, l3, newL_f, lim_of (show os.length ≤ 200000 by omega), lim_of (show (tl 0 r).length ≤ 200000 by omega), all_bls b1, List.all_map, Function.comp_def, hb, e]
@[simp] theorem c_order {r : Row} {os : List Int} (hr : r.length ≤ 1000) (ho : os.length ≤ 1000) : callP (Ek g s f ab (k + 3)) 3 [ordD os, rowD r] h = .ok (.bl (isOrd os r)) h := callE (r_order hr ho) (by simp)
theorem run4 {a b : D} : run (PF.mk g s f ab) (k + 1) 4 [a, b] [] = endS 0 (exSs (Ek g s f ab k) PF.b4 [some a, some b, none] []) := rfl
abbrev sceneD (r : Row) (os : List Int) : D := .tup [rowD r, ordD os]
theorem r_scene {r : Row} {os : List Int} {w : Int} (hr : r.length ≤ 1000) (ho : os.length ≤ 1000) : run (PF.mk g s f ab) (k + 4) 4 [sceneD r os, .int w] [] = .ok (.bl (decide (w ≤ r.length) && decide ((r.length : Int) ≤ 3) && decide (0 < r.length) && isOrd os r)) [] := by
  rw [run4]
  have c1 : callP (Ek g s f ab (k + 3)) 2 [rowD r, .int r.length] [] = .ok (.bl true) [] := c_cont hr
  have c2 : callP (Ek g s f ab (k + 3)) 3 [ordD os, rowD r] [] = .ok (.bl (isOrd os r)) [] := c_order hr ho
  by_cases h1 : w ≤ r.length
  · by_cases h2 : (r.length : Int) ≤ 3
    · by_cases h3 : 0 < r.length
      · simp only [h1, h2, h3, decide_true, Bool.true_and]
        simp [PF.b4, PF.glo, PF.shs, arr, arr1, c1, c2, opSub, atI, ixN, h1, h2, h3]
      · simp only [h1, h2, h3, decide_true, decide_false, Bool.true_and, Bool.false_and]
        simp [PF.b4, PF.glo, PF.shs, arr, arr1, opSub, atI, ixN, h1, h2, h3]
    · simp only [h1, h2, decide_true, decide_false, Bool.true_and, Bool.false_and]
      simp [PF.b4, PF.glo, PF.shs, arr, arr1, opSub, atI, ixN, h1, h2]
  · simp only [h1, decide_false, Bool.false_and]
    simp [PF.b4, PF.glo, PF.shs, arr, arr1, opSub, atI, ixN, h1]
end
end EV

set_option Elab.async false
set_option linter.all false
set_option maxRecDepth 100000
set_option maxHeartbeats 4000000
/-! scenes: names, rows, orders. -/
namespace EV
open PySem
/-! ### loops -/
theorem wh_sk {T : Lc → Hs → R Bool} {S : Lc → Hs → SR} {dl : Int} {xs : List Int} {h : Hs} (st : Int → Lc) (hT : ∀ v, T (st v) h = .ok (decide (v ∈ xs)) h) (hS : ∀ v, v ∈ xs → S (st v) h = .next (st (v + dl)) h) :
    ∀ (n F : Nat) (v : Int), n < F → sk dl xs n v ∉ xs → whileLoop T S F (st v) h = .next (st (sk dl xs n v)) h
  | 0, F, v, hF, hv => by
    obtain ⟨F, rfl⟩ : ∃ F', F = F' + 1 := ⟨F - 1, by omega⟩
    simp only [sk] at hv ⊢
    simp [whileLoop, hT, hv]
  | n + 1, F, v, hF, hv => by
    obtain ⟨F, rfl⟩ : ∃ F', F = F' + 1 := ⟨F - 1, by omega⟩
    unfold sk at hv ⊢
    by_cases h : v ∈ xs
    · rw [if_pos h] at hv ⊢
      simp only [whileLoop, hT, h, decide_true, thenS_ok, if_true, hS v h, loopS]
      exact wh_sk st hT hS n F (v + dl) (by omega) hv
    · rw [if_neg h]
      simp [whileLoop, hT, h]
theorem for_inv {α : Type} {f : α → D} {src : Src} {step : D → Lc → Hs → SR} {all : List α} (hc : src.g = []) (I : List α → Lc → Hs → Prop)
    (hs : ∀ dn a rest L h, dn ++ a :: rest = all → I dn L h → ∃ L' h', step (f a) L h = .next L' h' ∧ I (dn ++ [a]) L' h') :
    ∀ (xs dn : List α) (L : Lc) (h : Hs), dn ++ xs = all → I dn L h → ∃ L' h', forLoop src step (xs.map f) L h = .next L' h' ∧ I all L' h'
  | [], dn, L, h, e, i => ⟨L, h, by simp [forLoop, chk, chkG, hc], by rw [← e, List.append_nil]; exact i⟩
  | a :: xs, dn, L, h, e, i => by
    obtain ⟨L1, h1, e1, i1⟩ := hs dn a xs L h e i
    obtain ⟨L2, h2, e2, i2⟩ := for_inv hc I hs xs (dn ++ [a]) L1 h1 (by simpa using e) i1
    refine ⟨L2, h2, ?_, i2⟩
    have ck : chk src h = true := by simp [chk, chkG, hc]
    simp only [List.map_cons, forLoop, ck, if_true, e1, loopS]
    exact e2
theorem beq_int (i j : Int) : D.beq (.int i) (.int j) = decide (i = j) := by simp [D.beq]
theorem app_ok {n : Nat} {xs : List D} {d : D} {h : Hs} (e : h[n]? = some (.lst xs)) (hl : xs.length ≤ 200000) : callM (.loc n) .append [d] h = .ok .non (h.set n (.lst (xs ++ [d]))) := by
  simp [callM, e, lim_lt hl]
theorem ext_ok {n : Nat} {xs ys : List D} {d : D} {h : Hs} (e : h[n]? = some (.lst xs)) (e2 : lstI h d = some ys) (hl : xs.length + ys.length ≤ 200000) : callM (.loc n) .extend [d] h = .ok .non (h.set n (.lst (xs ++ ys))) := by
  have : Nat.ble (xs.length + ys.length) lim = true := Nat.ble_eq.mpr (lim_of hl)
  simp [callM, e, e2, this]
theorem kind_app {n : Nat} {xs : List D} {h : Hs} (e : h[n]? = some (.lst xs)) : kindM .append (.loc n) h = true := by simp [kindM, e]
theorem kind_ext {n : Nat} {xs : List D} {h : Hs} (e : h[n]? = some (.lst xs)) : kindM .extend (.loc n) h = true := by simp [kindM, e]
/-! ### dicts of ints -/
abbrev asgD (A : Asg) : List (D × D) := A.map fun q => (.int q.1, .int q.2)
theorem kvFind_asg (v : Int) : ∀ A : Asg, kvFind (.int v) (asgD A) = (look A v).map .int
  | [] => rfl
  | (a, b) :: A => by
    have ih := kvFind_asg v A
    show (if feq (.int a) (.int v) = true then some (.int b) else kvFind (.int v) (asgD A)) = (look ([(a, b)] ++ A) v).map .int
    show (if (a == v) = true then _ else _) = _
    by_cases h : a = v
    · rw [look_app_old (n := b) (by rw [look_one, if_pos h])]
      simp [h]
    · rw [look_app_new (by rw [look_one, if_neg h]), ← ih]
      simp [h]
theorem any_asg (v : Int) : ∀ A : Asg, ((asgD A).any fun q => feq q.1 (.int v)) = (look A v).isSome
  | [] => rfl
  | (a, b) :: A => by
    have ih := any_asg v A
    show (feq (.int a) (.int v) || ((asgD A).any fun q => feq q.1 (.int v))) = (look ([(a, b)] ++ A) v).isSome
    show ((a == v) || _) = _
    by_cases h : a = v
    · rw [look_app_old (n := b) (by rw [look_one, if_pos h])]
      simp [h]
    · rw [look_app_new (by rw [look_one, if_neg h]), ih]
      simp [h]
theorem flatK_asg (A : Asg) : flatK (asgD A) = true := by
  unfold flatK asgD
  rw [List.all_map]
  exact List.all_eq_true.mpr fun _ _ => rfl
theorem put_asg {A : Asg} {v n : Int} (h : look A v = none) : kvPut (.int v) (.int n) (asgD A) = asgD (A ++ [(v, n)]) := by
  unfold kvPut
  rw [any_asg, h]
  simp
section
variable {g : List D} {s : List (List Sl)} {f : List Fn} {ab : List Nat} {k : Nat} {h : Hs}
/-! ### next_name -/
theorem run5 {a b : D} : run (PF.mk g s f ab) (k + 1) 5 [a, b] h = endS h.length (exSs (Ek g s f ab k) PF.b5 [some a, some b, none] h) := rfl
theorem r_nextH {a b : D} {ks us : List Int} (ha : items h a = some (ks.map .int)) (hb : items h b = some (us.map .int)) (hl : ks.length + us.length ≤ 1000) (hh : h.all (O.undr h.length) = true) : run (PF.mk g s f ab) (k + 1) 5 [a, b] h = .ok (.int (nx (ks ++ us))) h := by
  rw [run5]
  have w := wh_sk (T := whT (Ek g s f ab k) (.or (.cmp .In (.var 2) (.var 0)) (.cmp .In (.var 2) (.var 1)))) (S := whS (Ek g s f ab k) PF.b5_1) (dl := 1) (xs := ks ++ us) (h := h) (fun v => [some a, some b, some (.int v)])
    (fun v => by
      by_cases h1 : v ∈ ks
      · simp [whT, opIn_ints ha, h1]
      · simp [whT, opIn_ints ha, opIn_ints hb, h1])
    (fun v _ => by simp [whS, PF.b5_1]) (ks ++ us).length 2000 0 (by simp; omega) (nx_free _)
  simp [PF.b5]
  simp only [List.length_append] at w
  rw [w]
  simp [nx]
  exact endS_h rfl rfl hh
theorem r_next {a b : D} {ks us : List Int} (ha : items [] a = some (ks.map .int)) (hb : items [] b = some (us.map .int)) (hl : ks.length + us.length ≤ 1000) : run (PF.mk g s f ab) (k + 1) 5 [a, b] [] = .ok (.int (nx (ks ++ us))) [] := r_nextH ha hb hl rfl
/-! ### names_of, renamed -/
theorem run6 {a b : D} : run (PF.mk g s f ab) (k + 1) 6 [a, b] [] = endS 0 (exSs (Ek g s f ab k) PF.b6 [some a, some b, none, none, none, none] []) := rfl
/-- what stands behind a part of a row -/
structure NmI (ks : List Int) (dn : Row) (N A : Asg) (us : List Int) : Prop where
  asg : A = EV.asg (frN ks) ks [] dn
  usE : us = A.map (·.2)
  len : N.length ≤ dn.length
  ulen : us.length ≤ dn.length
  out : ∀ v, v ∉ ks → look N v = look A v
  inn : ∀ v, v ∈ ks → look N v = none ∨ look N v = some v
  all : ∀ v, some v ∈ dn → (look N v).isSome = true
theorem asg_app (fr : Asg → Int) (ks : List Int) : ∀ (r q : Row) (A : Asg), EV.asg fr ks A (r ++ q) = EV.asg fr ks (EV.asg fr ks A r) q
  | [], q, A => rfl
  | none :: r, q, A => asg_app fr ks r q A
  | some v :: r, q, A => by
    simp only [List.cons_append, EV.asg]
    split
    · exact asg_app fr ks r q A
    · split
      · exact asg_app fr ks r q A
      · exact asg_app fr ks r q _
theorem set0 {α : Type} {a b c : α} : [a, b].set 0 c = [c, b] := rfl
theorem set1 {α : Type} {a b c : α} : [a, b].set 1 c = [a, c] := rfl
theorem nm_turn {ks : List Int} {dn : Row} {N A : Asg} {us : List Int} {o : Option Int} {kd vd : D} {x2 x5 : Option D} (hk : items [] kd = some (ks.map .int)) (hkp : D.undr 0 kd = true) (hl : ks.length + dn.length ≤ 900) (I : NmI ks dn N A us)
    (hkh : ∀ h, items h kd = some (ks.map .int)) :
    ∃ N' A' us' x5', forStep (Ek g s f ab (k + 1)) (.name 2) PF.b6_1 (od o) [some kd, some vd, x2, some (.loc 0), some (.loc 1), x5] [.dic (asgD N), .lst (us.map .int)] = .next [some kd, some vd, some (od o), some (.loc 0), some (.loc 1), x5'] [.dic (asgD N'), .lst (us'.map .int)] ∧ NmI ks (dn ++ [o]) N' A' us' := by
  have hin : ∀ v, opIn [.dic (asgD N), .lst (us.map .int)] (.int v) (.loc 0) = some (look N v).isSome := fun v => by
    simp only [opIn, items, lstI, dicI, List.getElem?_cons_zero, flat, flatK_asg, Bool.and_self, if_true, any_asg]
  cases o with
  | none =>
    refine ⟨N, A, us, x5, by simp [PF.b6_1], ?_⟩
    refine ⟨by rw [asg_app, ← I.asg]; rfl, I.usE, by have := I.len; simp; omega, by have := I.ulen; simp; omega, I.out, I.inn, fun v hv => ?_⟩
    rcases List.mem_append.mp hv with hv | hv
    · exact I.all v hv
    · simp at hv
  | some v =>
    by_cases hN : (look N v).isSome = true
    · refine ⟨N, A, us, x5, by simp [PF.b6_1, hin, hN], ?_⟩
      refine ⟨?_, I.usE, by have := I.len; simp; omega, by have := I.ulen; simp; omega, I.out, I.inn, fun w hw => ?_⟩
      · rw [asg_app, ← I.asg]
        simp only [EV.asg]
        split
        · rfl
        · rename_i hk
          rw [← I.out v hk]
          cases e : look N v with
          | none => rw [e] at hN; cases hN
          | some n => rfl
      · rcases List.mem_append.mp hw with hw | hw
        · exact I.all w hw
        · simp at hw; rw [hw]; exact hN
    · have hN' : look N v = none := by simpa using hN
      have all' : ∀ n w, some w ∈ dn ++ [some v] → (look (N ++ [(v, n)]) w).isSome = true := fun n w hw => by
        rcases List.mem_append.mp hw with hw | hw
        · have := I.all w hw
          obtain ⟨m, e⟩ := Option.isSome_iff_exists.mp this
          rw [look_app_old e]; rfl
        · simp at hw
          rw [hw, look_app_new hN', look_one, if_pos rfl]; rfl
      have put : ∀ n us', setSub (.loc 0) (.int v) (.int n) [.dic (asgD N), .lst us'] = .ok () [.dic (asgD (N ++ [(v, n)])), .lst us'] := fun n us' => by
        have : Nat.blt (asgD N).length lim = true := lim_lt (by have := I.len; simp; omega)
        simp only [setSub, List.getElem?_cons_zero, flat, flatK_asg, this, Bool.and_self, if_true, put_asg hN', set0]
      by_cases hv : v ∈ ks
      · refine ⟨N ++ [(v, v)], A, us, some (.int v), ?_, ?_⟩
        · simp [PF.b6_1, hin, hN', opIn_ints (hkh _), hv, put]
        · refine ⟨by rw [asg_app, ← I.asg]; simp [EV.asg, hv], I.usE, by have := I.len; simp; omega, by have := I.ulen; simp; omega, fun w hw => ?_, fun w hw => ?_, all' v⟩
          · have : v ≠ w := fun e => hw (e ▸ hv)
            cases e : look N w with
            | none => rw [look_app_new e, look_one, if_neg this, ← I.out w hw, e]
            | some n => rw [look_app_old e, ← I.out w hw, e]
          · cases e : look N w with
            | none =>
              rw [look_app_new e, look_one]
              by_cases q : v = w
              · rw [if_pos q, q]; exact .inr rfl
              · rw [if_neg q]; exact .inl rfl
            | some n =>
              rw [look_app_old e]
              exact .inr (e ▸ (I.inn w hw).resolve_left (fun z => by rw [e] at z; cases z))
      · have hA : look A v = none := by rw [← I.out v hv]; exact hN'
        generalize hn : nx (ks ++ us) = n
        have hfr : frN ks A = n := by rw [← hn, I.usE]; rfl
        refine ⟨N ++ [(v, n)], A ++ [(v, n)], us ++ [n], some (.int n), ?_, ?_⟩
        · have c : callP (Ek g s f ab (k + 1)) 5 [kd, .loc 1] [.dic (asgD N), .lst (us.map .int)] = .ok (.int n) [.dic (asgD N), .lst (us.map .int)] := by
            refine callH ?_ (by simp)
            rw [← hn]
            refine r_nextH (hkh _) rfl (by have := I.ulen; omega) ?_
            simp [O.undr, undrs_map]
          have ap : callM (.loc 1) .append [.int n] [.dic (asgD N), .lst (us.map .int)] = .ok .non [.dic (asgD N), .lst ((us ++ [n]).map .int)] := by
            rw [app_ok (xs := us.map .int) rfl (by have := I.ulen; simp; omega), set1]
            simp
          have kd2 : kindM .append (.loc 1) [.dic (asgD N), .lst (us.map .int)] = true := kind_app rfl
          simp [PF.b6_1, hin, hN', opIn_ints (hkh _), hv, PF.shs, arr, arr1, c, kd2]
          simp only [List.map_append, List.map_cons, List.map_nil] at ap
          simp [ap, put]
        · refine ⟨?_, by rw [I.usE]; simp, by have := I.len; simp; omega, by have := I.ulen; simp; omega, fun w hw => ?_, fun w hw => ?_, all' n⟩
          · rw [asg_app, ← I.asg]
            simp [EV.asg, hv, hA, hfr]
          · cases e : look N w with
            | none =>
              have e2 : look A w = none := by rw [← I.out w hw]; exact e
              rw [look_app_new e, look_app_new e2]
            | some m =>
              have e2 : look A w = some m := by rw [← I.out w hw]; exact e
              rw [look_app_old e, look_app_old e2]
          · have : v ≠ w := fun e => hv (e ▸ hw)
            cases e : look N w with
            | none => rw [look_app_new e, look_one, if_neg this]; exact .inl rfl
            | some m =>
              rw [look_app_old e]
              exact .inr (e ▸ (I.inn w hw).resolve_left (fun z => by rw [e] at z; cases z))
theorem r_names {ks : List Int} {r : Row} {kd vd : D} (hkh : ∀ h, items h kd = some (ks.map .int)) (hkp : D.undr 0 kd = true) (hv : ∀ h f, srcOf vd h f = .ok ⟨f (r.map od), []⟩ h) (hl : ks.length + r.length ≤ 900) :
    ∃ N A us, run (PF.mk g s f ab) (k + 2) 6 [kd, vd] [] = .ok (.dic ((asgD N).map (·.1)) ((asgD N).map (·.2))) [] ∧ NmI ks r N A us := by
  rw [run6]
  obtain ⟨L', h', e, N, A, us, x2, x5, rfl, rfl, I⟩ := for_inv (f := od) (src := ⟨r.map od, []⟩) (step := forStep (Ek g s f ab (k + 1)) (.name 2) PF.b6_1) (all := r) rfl
    (fun dn L h => ∃ N A us x2 x5, L = [some kd, some vd, x2, some (.loc 0), some (.loc 1), x5] ∧ h = [.dic (asgD N), .lst (us.map .int)] ∧ NmI ks dn N A us)
    (by
      rintro dn a rest L h hd ⟨N, A, us, x2, x5, rfl, rfl, I⟩
      obtain ⟨N', A', us', x5', e, I'⟩ := nm_turn (g := g) (s := s) (f := f) (ab := ab) (k := k) (o := a) (vd := vd) (x2 := x2) (x5 := x5) (hkh []) hkp (by have := congrArg List.length hd; simp at this; omega) I hkh
      exact ⟨_, _, e, N', A', us', some (od a), x5', rfl, rfl, I'⟩)
    r [] [some kd, some vd, none, some (.loc 0), some (.loc 1), none] [.dic (asgD []), .lst (([] : List Int).map .int)] rfl
    ⟨[], [], [], none, none, rfl, rfl, rfl, rfl, Nat.le_refl _, Nat.le_refl _, fun _ _ => rfl, fun _ _ => .inl rfl, fun v hv => by simp at hv⟩
  refine ⟨N, A, us, ?_, I⟩
  have nl : newL true [] [.dic []] = .ok (.loc 1) [.dic [], .lst []] := rfl
  simp only [List.map_nil] at e
  simp [PF.b6, nl, hv, e]
  rw [endS_dic (kvs := asgD N) rfl (by rw [List.map_map]; exact undrs_map fun _ _ => rfl)]
  simp
theorem run7 {a b : D} : run (PF.mk g s f ab) (k + 1) 7 [a, b] [] = endS 0 (exSs (Ek g s f ab k) PF.b7 [some a, some b, none] []) := rfl
/-- values by names -/
theorem r_ren {N : Asg} {r : Row} {vd : D} {q : Int → Int} (hv : ∀ h f, srcOf vd h f = .ok ⟨f (r.map od), []⟩ h) (hl : r.length ≤ 1000) (hN : ∀ v, some v ∈ r → look N v = some (q v)) :
    run (PF.mk g s f ab) (k + 1) 7 [.dic ((asgD N).map (·.1)) ((asgD N).map (·.2)), vd] [] = .ok (rowD (r.map (Option.map q))) [] := by
  rw [run7]
  have zz : ((asgD N).map (·.1)).zip ((asgD N).map (·.2)) = asgD N := by
    rw [List.zip_map']
    exact List.map_id _
  have sub : ∀ v n, look N v = some n → opSub (.dic ((asgD N).map (·.1)) ((asgD N).map (·.2))) (.int v) [] = .ok (.int n) [] := fun v n e => by
    simp only [opSub, items, lstI, dicI, zz, flat, flatK_asg, Bool.and_self, if_true, kvFind_asg, e, Option.map_some, optD_some]
  have l : ∀ a b : Option D, lcLoop ⟨r.map od, []⟩ (lcStep (Ek g s f ab k) [2] (.name 2) .nil (.ife (.cmp .Is (.var 2) .cnon) .cnon (.sub (.var 0) (.var 2))) [some (.dic ((asgD N).map (·.1)) ((asgD N).map (·.2))), a, b]) (r.map od) [] = .ok (r.map fun o => od (o.map q)) [] := by
    intro a b
    refine lc_map rfl r fun o ho => lcStep_all rfl ?_
    cases o with
    | none => simp
    | some v =>
      have := sub v (q v) (hN v ho)
      generalize D.dic ((asgD N).map (·.1)) ((asgD N).map (·.2)) = dd at *
      simp [this]
  generalize hdd : D.dic ((asgD N).map (·.1)) ((asgD N).map (·.2)) = dd at *
  simp [PF.b7, hv, l, newL_f, lim_of (show r.length ≤ 200000 by omega)]
  rw [endS_ret (by simp only [undr_tup]; exact undrs_map fun _ _ => undr_od ..)]
  simp [rowD, Function.comp_def]
end
end EV

set_option Elab.async false
set_option linter.all false
set_option maxRecDepth 100000
set_option maxHeartbeats 4000000
/-! scenes: bare rows, all rows, all scenes. -/
namespace EV
open PySem
theorem sortI_len : ∀ xs : List Int, (sortI xs).length = xs.length := by
  have ins : ∀ (i : Int) (xs : List Int), (insI i xs).length = xs.length + 1 := by
    intro i xs
    induction xs with
    | nil => rfl
    | cons x xs ih =>
      unfold insI
      split
      · rfl
      · rw [List.length_cons, ih, List.length_cons]
  intro xs
  induction xs with
  | nil => rfl
  | cons x xs ih => rw [sortI, ins, ih, List.length_cons]
theorem more_len (fr : Int) (us : List Int) (one : Int) : (more fr us one).length ≤ us.length + 1 := by
  unfold more
  split <;> simp
theorem flatMap_len {α β : Type} {f : α → List β} {B : Nat} : ∀ {xs : List α}, (∀ x ∈ xs, (f x).length ≤ B) → (xs.flatMap f).length ≤ xs.length * B
  | [], _ => by simp
  | x :: xs, h => by
    rw [List.flatMap_cons, List.length_append, List.length_cons, Nat.succ_mul]
    have h1 := h x (List.mem_cons_self ..)
    have h2 := flatMap_len (xs := xs) fun y hy => h y (List.mem_cons_of_mem _ hy)
    omega
theorem cf_len (ks : List Int) : ∀ (w : Nat) (us : List Int), ks.length + us.length + w ≤ 30 → (cf ks w us).length ≤ 31 ^ w
  | 0, us, _ => by simp [cf]
  | w + 1, us, h => by
    have i1 := cf_len ks w us (by omega)
    have i2 := flatMap_len (f := fun one => (cf ks w (more (nx (ks ++ us)) us one)).map (some one :: ·)) (B := 31 ^ w) (xs := sortI (ks ++ us ++ [nx (ks ++ us)])) fun one _ => by
      rw [List.length_map]
      have := more_len (nx (ks ++ us)) us one
      exact cf_len ks w _ (by omega)
    rw [sortI_len] at i2
    simp only [List.length_append, List.length_cons, List.length_nil] at i2
    have i3 : (ks.length + us.length + (0 + 1)) * 31 ^ w ≤ 30 * 31 ^ w := Nat.mul_le_mul_right _ (by omega)
    simp only [cf, List.length_append, List.length_map]
    rw [Nat.pow_succ]
    omega
theorem cf_row {ks : List Int} {w : Nat} {us : List Int} {r : Row} (h : r ∈ cf ks w us) : r.length = w := ((mem_cf ks w us r).mp h).1
theorem pow31 {w : Nat} (h : w ≤ 3) : 31 ^ w ≤ 29791 := Nat.le_trans (Nat.pow_le_pow_right (by decide) h) (by decide)
section
variable {g : List D} {s : List (List Sl)} {f : List Fn} {ab : List Nat} {k : Nat} {h : Hs}
/-! ### bare rows -/
theorem nm_q {ks : List Int} {r : Row} {N A : Asg} {us : List Int} (I : NmI ks r N A us) : ∀ v, some v ∈ r → look N v = some (if v ∈ ks then v else (look A v).getD v) := fun v hv => by
  obtain ⟨n, e⟩ := Option.isSome_iff_exists.mp (I.all v hv)
  by_cases hk : v ∈ ks
  · rw [if_pos hk]
    rcases I.inn v hk with z | z
    · rw [e] at z; cases z
    · exact z
  · rw [if_neg hk, ← I.out v hk, e]
    rfl
/-- renamed(names_of(known, values), values) -/
theorem r_bare {ks : List Int} {r : Row} {kd : D} (hkh : ∀ h, items h kd = some (ks.map .int)) (hkp : D.undr 0 kd = true) (hl : ks.length + r.length ≤ 900) :
    ∃ nd, run (PF.mk g s f ab) (k + 2) 6 [kd, rowD r] [] = .ok nd [] ∧ D.undr 0 nd = true ∧ run (PF.mk g s f ab) (k + 2) 7 [nd, rowD r] [] = .ok (rowD (nmd ks r)) [] := by
  obtain ⟨N, A, us, e, I⟩ := r_names (g := g) (s := s) (f := f) (ab := ab) (k := k) (vd := rowD r) hkh hkp (fun h f => rfl) hl
  refine ⟨_, e, ?_, ?_⟩
  · rw [undr_dic, List.map_map]
    exact undrs_map fun _ _ => rfl
  · rw [r_ren (k := k + 1) (fun h f => rfl) (by omega) (nm_q I), I.asg]
    exact congrArg (fun z => R.ok (rowD z) []) (byA_onl (frN ks) ks r [])
/-! ### all rows -/
theorem run8 {a b c : D} : run (PF.mk g s f ab) (k + 1) 8 [a, b, c] [] = endS 0 (exSs (Ek g s f ab k) PF.b8 [some a, some b, some c, none, none, none, none, none, none] []) := rfl
theorem r_cf : ∀ (w k : Nat) {ks us : List Int}, ks.length + us.length + w ≤ 30 → w ≤ 3 → run (PF.mk g s f ab) (k + w + 2) 8 [.int w, ordD ks, .lst (us.map .int)] [] = .ok (.lst ((cf ks w us).map rowD)) []
  | 0, k, ks, us, hl, _ => by
    rw [show k + 0 + 2 = (k + 1) + 1 from rfl, run8]
    simp [PF.b8, cf]
  | w + 1, k, ks, us, hl, hw => by
    have p31 := pow31 (w := w) (by omega)
    rw [show k + (w + 1) + 2 = (k + w + 2) + 1 from by omega, run8]
    generalize hfr : nx (ks ++ us) = fr
    have nxt : callP (Ek g s f ab (k + w + 2)) 5 [ordD ks, .lst (us.map .int)] [] = .ok (.int fr) [] := by
      refine callE ?_ (by simp)
      rw [← hfr]
      exact r_next (k := k + w + 1) rfl rfl (by omega)
    have ih : ∀ (us' : List Int) (h : Hs), ks.length + us'.length + w ≤ 30 → callP (Ek g s f ab (k + w + 2)) 8 [.int w, ordD ks, .lst (us'.map .int)] h = .ok (.lst ((cf ks w us').map rowD)) h := fun us' h hl' => callE (r_cf w k hl' (by omega)) (by simp)
    have len0 := cf_len ks w us (by omega)
    have l0 : ∀ a b c d e f' : Option D, lcLoop ⟨(cf ks w us).map rowD, []⟩ (lcStep (Ek g s f ab (k + w + 2)) [7] (.name 7) .nil (.tup (.cons .cnon (.star (.var 7) .nil))) [some (.int (w + 1)), a, b, c, d, e, f', none, none]) ((cf ks w us).map rowD) [] = .ok (((cf ks w us).map (none :: ·)).map rowD) [] := by
      intro a b c d e f'
      rw [List.map_map]
      refine lc_map rfl _ fun r hr => lcStep_all rfl ?_
      have := cf_row hr
      simp [newT_ok (lim_of (show (D.non :: r.map od).length ≤ 200000 by simp; omega))]
    have l1 : ∀ a b c d e f' g' h' : Option D, ∀ hh, lcLoop ⟨(ks ++ us ++ [fr]).map .int, []⟩ (lcStep (Ek g s f ab (k + w + 2)) [8] (.name 8) .nil (.blt .int (.cons (.var 8) .nil)) [a, b, c, d, e, f', g', h', none]) ((ks ++ us ++ [fr]).map .int) hh = .ok ((ks ++ us ++ [fr]).map .int) hh := by
      intro a b c d e f' g' h' hh
      refine lc_map rfl _ fun i _ => lcStep_all rfl ?_
      simp
    -- the inner loop
    have inner : ∀ (one : Int) (rows acc : List Row) (x1 x2 x3 x5 x6 x7 : Option D), (∀ r ∈ rows, r.length ≤ 10) → acc.length + rows.length ≤ 200000 → ∃ x7', forLoop ⟨rows.map rowD, []⟩ (forStep (Ek g s f ab (k + w + 2)) (.name 7) PF.b8_1) (rows.map rowD) [some (.int (w + 1)), x1, x2, x3, some (.loc 0), some (.int one), x6, x7, none] [.lst (acc.map rowD)] = .next [some (.int (w + 1)), x1, x2, x3, some (.loc 0), some (.int one), x6, x7', none] [.lst ((acc ++ rows.map (some one :: ·)).map rowD)] := by
      intro one rows acc x1 x2 x3 x5 x6 x7 hr hle
      obtain ⟨L', h', e, x7', rfl, rfl⟩ := for_inv (f := rowD) (src := ⟨rows.map rowD, []⟩) (step := forStep (Ek g s f ab (k + w + 2)) (.name 7) PF.b8_1) (all := rows) rfl
        (fun dn L h => ∃ x7, L = [some (.int (w + 1)), x1, x2, x3, some (.loc 0), some (.int one), x6, x7, none] ∧ h = [.lst ((acc ++ dn.map (some one :: ·)).map rowD)])
        (by
          rintro dn a rest L h hd ⟨x7, rfl, rfl⟩
          have ha : a.length ≤ 10 := hr a (by rw [← hd]; simp)
          have hlen := congrArg List.length hd
          simp at hlen
          have t1 : newT (D.int one :: a.map od) [O.lst ((acc ++ dn.map (some one :: ·)).map rowD)] = .ok (rowD (some one :: a)) [O.lst ((acc ++ dn.map (some one :: ·)).map rowD)] := newT_ok (lim_of (by simp; omega))
          have ap : callM (.loc 0) .append [rowD (some one :: a)] [O.lst ((acc ++ dn.map (some one :: ·)).map rowD)] = .ok .non [O.lst ((acc ++ (dn ++ [a]).map (some one :: ·)).map rowD)] := by
            rw [app_ok (xs := (acc ++ dn.map (some one :: ·)).map rowD) rfl (by simp; omega)]
            simp
          have kd : kindM .append (.loc 0) [O.lst ((acc ++ dn.map (some one :: ·)).map rowD)] = true := kind_app rfl
          generalize [O.lst ((acc ++ dn.map (some one :: ·)).map rowD)] = H at *
          refine ⟨_, _, ?_, some (rowD a), rfl, rfl⟩
          simp [PF.b8_1, kd, t1, ap])
        rows [] [some (.int (w + 1)), x1, x2, x3, some (.loc 0), some (.int one), x6, x7, none] [.lst (acc.map rowD)] rfl ⟨x7, rfl, by simp⟩
      exact ⟨x7', e⟩
    generalize hS : sortI (ks ++ us ++ [fr]) = S
    have tot : cf ks (w + 1) us = (cf ks w us).map (none :: ·) ++ S.flatMap fun one => (cf ks w (more fr us one)).map (some one :: ·) := by
      simp only [cf, hfr, hS]
    have totl := cf_len ks (w + 1) us hl
    have p31' := pow31 (w := w + 1) hw
    obtain ⟨L', h', e, x5, x6, x7, rfl, rfl⟩ := for_inv (f := D.int) (src := ⟨S.map .int, []⟩) (step := forStep (Ek g s f ab (k + w + 2)) (.name 5) PF.b8_2) (all := S) rfl
      (fun dn L h => ∃ x5 x6 x7, L = [some (.int (w + 1)), some (ordD ks), some (.lst (us.map .int)), some (.int fr), some (.loc 0), x5, x6, x7, none] ∧ h = [.lst (((cf ks w us).map (none :: ·) ++ dn.flatMap fun one => (cf ks w (more fr us one)).map (some one :: ·)).map rowD)])
      (by
        rintro dn one rest L h hd ⟨x5, x6, x7, rfl, rfl⟩
        have ml := more_len fr us one
        generalize hF : (cf ks w us).map (none :: ·) ++ (dn.flatMap fun one => (cf ks w (more fr us one)).map (some one :: ·)) = F
        have hFl : F.length + (cf ks w (more fr us one)).length ≤ 200000 := by
          have : (cf ks (w + 1) us).length = F.length + (cf ks w (more fr us one)).length + (rest.flatMap fun one => (cf ks w (more fr us one)).map (some one :: ·)).length := by
            rw [tot, ← hd, ← hF]
            simp [List.flatMap_append, List.flatMap_cons]
            omega
          omega
        obtain ⟨x7', ei⟩ := inner one (cf ks w (more fr us one)) F (some (ordD ks)) (some (.lst (us.map .int))) (some (.int fr)) none (some (.lst ((more fr us one).map .int))) x7 (fun r hr => by rw [cf_row hr]; omega) hFl
        have ihc := ih (more fr us one) [O.lst (F.map rowD)] (by omega)
        refine ⟨_, _, ?_, some (.int one), some (.lst ((more fr us one).map .int)), x7', rfl, rfl⟩
        have res : O.lst ((F ++ (cf ks w (more fr us one)).map (some one :: ·)).map rowD) = O.lst (((cf ks w us).map (none :: ·) ++ (dn ++ [one]).flatMap fun one => (cf ks w (more fr us one)).map (some one :: ·)).map rowD) := by
          rw [← hF]; simp [List.flatMap_append]
        rw [← res]
        have sub1 : ((w : Int) + 1) - 1 = w := by omega
        by_cases ho : one = fr
        · have nl : newL false (us.map D.int ++ [D.int fr]) [O.lst (F.map rowD)] = .ok (.lst ((more fr us one).map .int)) [O.lst (F.map rowD)] := by
            rw [newL_f (lim_of (by simp; omega))]
            simp [more, ho]
          generalize O.lst (F.map rowD) = o at *
          subst ho
          simp [PF.b8_2, nl, sub1, PF.shs, arr, arr1, ihc, ei]
        · have me : more fr us one = us := by simp [more, ho]
          rw [me] at ihc ei ⊢
          generalize O.lst (F.map rowD) = o at *
          simp [PF.b8_2, ho, sub1, PF.shs, arr, arr1, ihc, ei])
      S [] [some (.int (w + 1)), some (ordD ks), some (.lst (us.map .int)), some (.int fr), some (.loc 0), none, none, none, none] [.lst (((cf ks w us).map (none :: ·)).map rowD)] rfl ⟨none, none, none, rfl, by simp⟩
    have sub1 : ((w : Int) + 1) - 1 = w := by omega
    have wne : ¬ ((w : Int) + 1 = 0) := by omega
    have ihc := ih us [] (by omega)
    have n1 : newL true (((cf ks w us).map (none :: ·)).map rowD) [] = .ok (.loc 0) [.lst (((cf ks w us).map (none :: ·)).map rowD)] := newL_t (lim_of (by simp; omega))
    have n2 : ∀ hh, newL false (ks.map D.int ++ (us.map D.int ++ [D.int fr])) hh = .ok (.lst ((ks ++ us ++ [fr]).map .int)) hh := fun hh => by
      rw [newL_f (lim_of (by simp; omega))]
      simp
    have n3 : ∀ hh, newL false ((ks ++ us ++ [fr]).map .int) hh = .ok (.lst ((ks ++ us ++ [fr]).map .int)) hh := fun hh => newL_f (lim_of (by simp; omega))
    have so : ∀ hh, callB .sorted [.lst ((ks ++ us ++ [fr]).map .int)] hh = .ok (.lst (S.map .int)) hh := fun hh => by rw [← hS]; exact sorted_ints
    rw [← tot] at e
    generalize hrows : ((cf ks w us).map (none :: ·)).map rowD = rows at *
    generalize hiDs : (ks ++ us ++ [fr]).map D.int = iDs at *
    push_cast at *
    simp [PF.b8, wne, sub1, PF.shs, arr, arr1, nxt, ihc, l0, n1, n2, l1, n3, so, e]
    rw [endS_lst (xs := (cf ks (w + 1) us).map rowD) rfl (undrs_map fun _ _ => by simp)]
end
end EV

set_option Elab.async false
set_option linter.all false
set_option maxRecDepth 100000
set_option maxHeartbeats 4000000
/-! scenes: all scenes; scenes made bare. -/
namespace EV
open PySem
/-! ### orders -/
def ordGo (o : List Int → List (List Int)) : List Int → List Int → List (List Int)
  | _, [] => []
  | dn, one :: rest => (o (dn ++ rest)).map (one :: ·) ++ ordGo o (dn ++ [one]) rest
def ord : Nat → List Int → List (List Int)
  | 0, _ => [[]]
  | n + 1, ss => ordGo (ord n) [] ss
abbrev ordL (ss : List Int) : List (List Int) := ord ss.length ss
/-- rows of at most three: which tell -/
theorem tl_cases {r : Row} (h : r.length ≤ 3) : tl 0 r = [] ∨ tl 0 r = [0] ∨ tl 0 r = [1] ∨ tl 0 r = [2] ∨ tl 0 r = [0, 1] ∨ tl 0 r = [0, 2] ∨ tl 0 r = [1, 2] ∨ tl 0 r = [0, 1, 2] := by
  rcases r with _ | ⟨a, _ | ⟨b, _ | ⟨c, _ | ⟨d, r⟩⟩⟩⟩
  · simp [tl]
  · cases a <;> simp [tl]
  · cases a <;> cases b <;> simp [tl]
  · cases a <;> cases b <;> cases c <;> simp [tl]
  · simp at h
/-- parts of all scenes -/
abbrev Sc := Row × List Int
abbrev scD (q : Sc) : D := sceneD q.1 q.2
def scOf (r : Row) : List Sc := (ordL (tl 0 r)).map fun o => (r, o)
def part (m : Nat) (rows : List Row) : List Sc := rows.flatMap fun r => if (tl 0 r).length = m then scOf r else []
def scn (w : Nat) (rows : List Row) : List Sc := (List.range (w + 1)).flatMap fun m => part m rows
theorem scOf_len {r : Row} (h : r.length ≤ 3) : (scOf r).length ≤ 6 := by
  unfold scOf ordL
  rw [List.length_map]
  rcases tl_cases h with e | e | e | e | e | e | e | e <;> rw [e] <;> decide
theorem part_len {rows : List Row} {m : Nat} (h : ∀ r ∈ rows, r.length ≤ 3) : (part m rows).length ≤ rows.length * 6 := by
  refine flatMap_len fun r hr => ?_
  split
  · exact scOf_len (h r hr)
  · simp
section
variable {g : List D} {s : List (List Sl)} {f : List Fn} {ab : List Nat} {k : Nat} {h : Hs}
theorem run10 {a : D} : run (PF.mk g s f ab) (k + 1) 10 [a] [] = endS 0 (exSs (Ek g s f ab k) PF.b10 [some a, none, none] []) := rfl
theorem r_tell {r : Row} (hl : r.length ≤ 1000) : run (PF.mk g s f ab) (k + 1) 10 [rowD r] [] = .ok (ordD (tl 0 r)) [] := by
  rw [run10]
  have t1 := tl_len 0 r
  have l3 : ∀ a b c : Option D, lcLoop ⟨enumD 0 (r.map od), []⟩ (lcStep (Ek g s f ab k) [1, 2] (.tup [1, 2]) (.cons (.cmp .IsNot (.var 2) .cnon) .nil) (.var 1) [a, b, c]) (enumD 0 (r.map od)) [] = .ok ((tl 0 r).map .int) [] := fun a b c => lc_tell _ rfl (by simp) (by simp) (by decide) r 0
  simp [PF.b10, l3, newL_f, lim_of (show (tl 0 r).length ≤ 200000 by omega)]
theorem c_tell {r : Row} (hl : r.length ≤ 1000) : callP (Ek g s f ab (k + 1)) 10 [rowD r] h = .ok (ordD (tl 0 r)) h := callE (r_tell hl) (by simp)
theorem r_ord {r : Row} (hl : r.length ≤ 3) : run (PF.mk g s f ab) (k + 4) 9 [ordD (tl 0 r)] [] = .ok (.lst ((ordL (tl 0 r)).map ordD)) [] := by
  rcases tl_cases hl with e | e | e | e | e | e | e | e <;> rw [e] <;> rfl
theorem c_ord {r : Row} (hl : r.length ≤ 3) : callP (Ek g s f ab (k + 4)) 9 [ordD (tl 0 r)] h = .ok (.lst ((ordL (tl 0 r)).map ordD)) h := callE (r_ord hl) (by simp)
theorem ext_big {n : Nat} {xs ys : List D} {d : D} {h : Hs} (e : h[n]? = some (.lst xs)) (e2 : lstI h d = some ys) (hl : xs.length + ys.length ≤ 10000000) : callM (.loc n) .extend [d] h = .ok .non (h.set n (.lst (xs ++ ys))) := by
  have : Nat.ble (xs.length + ys.length) lim = true := Nat.ble_eq.mpr (Nat.le_trans hl (by decide))
  simp [callM, e, e2, this]
theorem run11 {a b : D} : run (PF.mk g s f ab) (k + 1) 11 [a, b] [] = endS 0 (exSs (Ek g s f ab k) PF.b11 [some a, some b, none, none, none, none, none, none] []) := rfl
theorem rangeD_map (n : Nat) : rangeD 0 n = (List.range n).map fun (i : Nat) => D.int (i : Int) := by
  have : ∀ (n : Nat) (lo : Nat), rangeD (lo : Int) n = (List.range' lo n).map fun (i : Nat) => D.int (i : Int) := by
    intro n
    induction n with
    | zero => intro lo; rfl
    | succ n ih =>
      intro lo
      rw [List.range'_succ, List.map_cons, rangeD, ← ih (lo + 1)]
      rfl
  rw [List.range_eq_range']
  exact this n 0
theorem small_nat {n : Nat} (h : n ≤ 1000000) : small (n : Int) = true := by
  unfold small
  rw [Bool.and_eq_true, decide_eq_true_eq, decide_eq_true_eq]
  exact ⟨by omega, by omega⟩
theorem rng_nat {n : Nat} (hn : n ≤ 1000000) : ∀ h : Hs, rngOf [.int (n : Int)] h = .ok ⟨(List.range n).map fun (i : Nat) => D.int (i : Int), []⟩ h := fun h => by
  rw [rng1 (small_nat hn), Int.toNat_natCast, rangeD_map]
theorem r_scn {w : Nat} {ks : List Int} (hk : ks.length + w ≤ 30) (hw : w ≤ 3) : run (PF.mk g s f ab) (k + w + 6) 11 [.int w, ordD ks] [] = .ok (.lst ((scn w (cf ks w [])).map scD)) [] := by
  rw [show k + w + 6 = (k + w + 5) + 1 from rfl, run11]
  have cfc : callP (Ek g s f ab (k + w + 5)) 8 [.int w, ordD ks, .lst []] [] = .ok (.lst ((cf ks w []).map rowD)) [] := by
    refine callE ?_ (by simp)
    rw [show k + w + 5 = (k + 3) + w + 2 by omega]
    exact r_cf (us := []) w (k + 3) (by simpa using hk) hw
  have cl := cf_len ks w [] (by simpa using hk)
  have p31 := pow31 hw
  generalize hrows : cf ks w [] = rows at *
  have hr3 : ∀ r ∈ rows, r.length ≤ 3 := fun r hr => by rw [← hrows] at hr; rw [cf_row hr]; exact hw
  have rl : rows.length ≤ 29791 := by omega
  -- the inner loop
  have inner : ∀ (m : Nat) (acc : List Sc) (x5 x6 x7 : Option D), acc.length ≤ 714984 → ∃ x5' x6' x7', forLoop ⟨rows.map rowD, []⟩ (forStep (Ek g s f ab (k + w + 5)) (.name 5) PF.b11_1) (rows.map rowD) [some (.int w), some (ordD ks), some (.lst (rows.map rowD)), some (.loc 0), some (.int m), x5, x6, x7] [.lst (acc.map scD)] = .next [some (.int w), some (ordD ks), some (.lst (rows.map rowD)), some (.loc 0), some (.int m), x5', x6', x7'] [.lst ((acc ++ part m rows).map scD)] := by
    intro m acc x5 x6 x7 hacc
    obtain ⟨L', h', e, x5', x6', x7', rfl, rfl⟩ := for_inv (f := rowD) (src := ⟨rows.map rowD, []⟩) (step := forStep (Ek g s f ab (k + w + 5)) (.name 5) PF.b11_1) (all := rows) rfl
      (fun dn L h => ∃ x5 x6 x7, L = [some (.int w), some (ordD ks), some (.lst (rows.map rowD)), some (.loc 0), some (.int m), x5, x6, x7] ∧ h = [.lst ((acc ++ part m dn).map scD)])
      (by
        rintro dn a rest L h hd ⟨x5, x6, x7, rfl, rfl⟩
        have ha : a.length ≤ 3 := hr3 a (by rw [← hd]; simp)
        have hdn : (part m dn).length ≤ 178746 := by
          have h1 : dn.length ≤ rows.length := by rw [← hd]; simp
          have h2 := part_len (m := m) (rows := dn) fun r hr => hr3 r (by rw [← hd]; simp [hr])
          omega
        have sl := scOf_len ha
        have pe : part m (dn ++ [a]) = part m dn ++ (if (tl 0 a).length = m then scOf a else []) := by simp [part, List.flatMap_append]
        rw [pe]
        generalize hH : acc ++ part m dn = F
        have hF : F.length ≤ 1000000 := by rw [← hH, List.length_append]; omega
        have ct := c_tell (g := g) (s := s) (f := f) (ab := ab) (k := k + w + 4) (h := [O.lst (F.map scD)]) (r := a) (by omega)
        have co := c_ord (g := g) (s := s) (f := f) (ab := ab) (k := k + w + 1) (h := [O.lst (F.map scD)]) ha
        by_cases hm : (tl 0 a).length = m
        · have lo : ∀ (b c d e : Option D), lcLoop ⟨(ordL (tl 0 a)).map ordD, []⟩ (lcStep (Ek g s f ab (k + w + 5)) [7] (.name 7) .nil (.tup (.cons (.var 5) (.cons (.var 7) .nil))) [some (.int w), b, c, d, some (.int m), some (rowD a), some (ordD (tl 0 a)), e]) ((ordL (tl 0 a)).map ordD) [O.lst (F.map scD)] = .ok ((scOf a).map scD) [O.lst (F.map scD)] := by
            intro b c d e
            rw [scOf, List.map_map]
            refine lc_map rfl _ fun o _ => lcStep_all rfl ?_
            simp
          have nl : newL false ((scOf a).map scD) [O.lst (F.map scD)] = .ok (.lst ((scOf a).map scD)) [O.lst (F.map scD)] := newL_f (lim_of (by simp; omega))
          have ke : kindM .extend (.loc 0) [O.lst (F.map scD)] = true := kind_ext rfl
          have ex : callM (.loc 0) .extend [.lst ((scOf a).map scD)] [O.lst (F.map scD)] = .ok .non [O.lst ((F ++ scOf a).map scD)] := by
            rw [ext_big (xs := F.map scD) rfl rfl (by simp; omega)]
            simp
          rw [if_pos hm, ← List.append_assoc, hH]
          generalize [O.lst (F.map scD)] = H at *
          refine ⟨_, _, ?_, some (rowD a), some (ordD (tl 0 a)), x7, rfl, rfl⟩
          simp [PF.b11_1, PF.shs, arr, arr1, ct, hm, co, lo, nl, ke, ex]
        · rw [if_neg hm, List.append_nil, hH]
          generalize [O.lst (F.map scD)] = H at *
          refine ⟨_, _, ?_, some (rowD a), some (ordD (tl 0 a)), x7, rfl, rfl⟩
          have hm' : ¬ (((tl 0 a).length : Int) = (m : Int)) := by omega
          simp [PF.b11_1, PF.shs, arr, arr1, ct, hm'])
      rows [] [some (.int w), some (ordD ks), some (.lst (rows.map rowD)), some (.loc 0), some (.int m), x5, x6, x7] [.lst (acc.map scD)] rfl ⟨x5, x6, x7, rfl, by simp [part]⟩
    exact ⟨x5', x6', x7', e⟩
  have plen : ∀ (ms : List Nat), (ms.flatMap fun m => part m rows).length ≤ ms.length * 178746 := fun ms => flatMap_len fun m _ => by
    have := part_len (m := m) hr3
    omega
  obtain ⟨L', h', e, x4, x5, x6, x7, rfl, rfl⟩ := for_inv (f := fun (i : Nat) => D.int (i : Int)) (src := ⟨(List.range (w + 1)).map fun (i : Nat) => D.int (i : Int), []⟩) (step := forStep (Ek g s f ab (k + w + 5)) (.name 4) PF.b11_2) (all := List.range (w + 1)) rfl
    (fun dn L h => ∃ x4 x5 x6 x7, L = [some (.int w), some (ordD ks), some (.lst (rows.map rowD)), some (.loc 0), x4, x5, x6, x7] ∧ h = [.lst ((dn.flatMap fun m => part m rows).map scD)])
    (by
      rintro dn m rest L h hd ⟨x4, x5, x6, x7, rfl, rfl⟩
      have hdl : dn.length ≤ 4 := by
        have := congrArg List.length hd
        simp at this
        omega
      have hb : (dn.flatMap fun m => part m rows).length ≤ 714984 := by
        have h1 := plen dn
        have h2 : dn.length * 178746 ≤ 4 * 178746 := Nat.mul_le_mul_right _ hdl
        omega
      obtain ⟨x5', x6', x7', ei⟩ := inner m (dn.flatMap fun m => part m rows) x5 x6 x7 hb
      refine ⟨_, _, ?_, some (.int m), x5', x6', x7', rfl, rfl⟩
      rw [List.flatMap_append, List.flatMap_cons, List.flatMap_nil, List.append_nil]
      generalize [O.lst ((dn.flatMap fun m => part m rows).map scD)] = H at *
      simp [PF.b11_2, ei])
    (List.range (w + 1)) [] [some (.int w), some (ordD ks), some (.lst (rows.map rowD)), some (.loc 0), none, none, none, none] [.lst []] rfl ⟨none, none, none, none, rfl, by simp⟩
  have rg : ∀ h, rngOf [.int ((w : Int) + 1)] h = .ok ⟨(List.range (w + 1)).map fun (i : Nat) => D.int (i : Int), []⟩ h := rng_nat (n := w + 1) (by omega)
  simp [PF.b11, PF.shs, arr, arr1, cfc, rg, e]
  rw [endS_lst (xs := ((List.range (w + 1)).flatMap fun m => part m rows).map scD) rfl (undrs_map fun _ _ => by simp)]
  rfl
/-! ### known values -/
def isKn (ks : List Int) : Bool := (ks.zip ks.tail).all fun q => decide (q.1 < q.2)
theorem run12 {a : D} : run (PF.mk g s f ab) (k + 1) 12 [a] [] = endS 0 (exSs (Ek g s f ab k) PF.b12 [some a, none, none] []) := rfl
theorem zipD_ints : ∀ xs ys : List Int, zipD (xs.map .int) (ys.map .int) = (xs.zip ys).map fun q => .tup [.int q.1, .int q.2]
  | [], ys => by simp [zipD]
  | x :: xs, [] => by simp [zipD]
  | x :: xs, y :: ys => by simp [zipD, zipD_ints xs ys]
theorem cut1 (xs : List D) : cutD xs (some 1) none = xs.tail := by
  unfold cutD sIx
  cases xs with
  | nil => rfl
  | cons x xs => simp
theorem r_known {ks : List Int} (hl : ks.length ≤ 9) (hk : isKn ks = true) : run (PF.mk g s f ab) (k + 2) 12 [ordD ks] [] = .ok (.bl true) [] := by
  rw [run12]
  have l : ∀ b c : Option D, lcLoop ⟨ks.map .int, []⟩ (lcStep (Ek g s f ab (k + 1)) [1] (.name 1) .nil (.call 0 0 (.cons (.var 1) .nil) .nil) [some (ordD ks), b, c]) (ks.map .int) [] = .ok (ks.map fun _ => .bl true) [] := by
    intro b c
    refine lc_map rfl _ fun o _ => lcStep_all rfl ?_
    simp [PF.shs, arr, arr1]
  have l2 : ∀ b c : Option D, lcLoop ⟨(ks.zip ks.tail).map fun q => .tup [.int q.1, .int q.2], []⟩ (lcStep (Ek g s f ab (k + 1)) [1, 2] (.tup [1, 2]) .nil (.cmp .Lt (.var 1) (.var 2)) [some (ordD ks), b, c]) ((ks.zip ks.tail).map fun q => .tup [.int q.1, .int q.2]) [] = .ok ((ks.zip ks.tail).map fun q => .bl (decide (q.1 < q.2))) [] := by
    intro b c
    refine lc_map rfl _ fun o _ => lcStep_all rfl ?_
    simp
  have hl9 : ¬ (9 < (ks.length : Int)) := by omega
  have zo : zipOf (ordD ks) (.tup (ks.map D.int).tail) [] = .ok ⟨(ks.zip ks.tail).map fun q => .tup [.int q.1, .int q.2], []⟩ [] := by
    rw [← List.map_tail]
    show R.ok (⟨zipD (ks.map .int) (ks.tail.map .int), []⟩ : Src) [] = _
    rw [zipD_ints]
  have sl : opSlc (ordD ks) (.int 1) .non [] = .ok (.tup (ks.map D.int).tail) [] := by
    show R.ok (D.tup (cutD (ks.map .int) (some 1) none)) [] = _
    rw [cut1]
  have zl : (ks.zip ks.tail).length ≤ 200000 := by simp; omega
  have b2 := bls_map (fun q : Int × Int => decide (q.1 < q.2)) (ks.zip ks.tail)
  have at_ : (ks.map fun _ => true).all id = true := by simp
  have ab := fun h => all_bls (h := h) (bls_true ks)
  rw [at_] at ab
  simp [PF.b12, l, newL_f, lim_of (show ks.length ≤ 200000 by omega), ab, hl9, sl, zo, l2, lim_of zl, all_bls b2]
  rw [newL_f (by simpa using lim_of zl)]
  simp [all_bls b2]
  unfold isKn at hk
  simpa using hk
theorem run13 {a b : D} : run (PF.mk g s f ab) (k + 1) 13 [a, b] [] = endS 0 (exSs (Ek g s f ab k) PF.b13 [some a, some b] []) := rfl
theorem r_scenes {w : Nat} {ks : List Int} (h1 : 1 ≤ w) (hw : w ≤ 3) (hl : ks.length ≤ 9) (hk : isKn ks = true) : run (PF.mk g s f ab) (k + w + 7) 13 [.int w, ordD ks] [] = .ok (.lst ((scn w (cf ks w [])).map scD)) [] := by
  rw [show k + w + 7 = (k + w + 6) + 1 from rfl, run13]
  have c1 : callP (Ek g s f ab (k + w + 6)) 12 [ordD ks] [] = .ok (.bl true) [] := callE (r_known (k := k + w + 4) hl hk) (by simp)
  have c2 : callP (Ek g s f ab (k + w + 6)) 11 [.int w, ordD ks] [] = .ok (.lst ((scn w (cf ks w [])).map scD)) [] := callE (r_scn (by omega) hw) (by simp)
  have i1 : (1 : Int) ≤ w := by omega
  have i3 : (w : Int) ≤ 3 := by omega
  simp [PF.b13, PF.shs, PF.glo, arr, arr1, i1, i3, c1, c2]
  rw [endS_ret (by rw [undr_lst]; exact undrs_map fun _ _ => by simp)]
theorem run14 {a b : D} : run (PF.mk g s f ab) (k + 1) 14 [a, b] [] = endS 0 (exSs (Ek g s f ab k) PF.b14 [some a, some b] []) := rfl
theorem r_bscene {r : Row} {os ks : List Int} (h1 : 1 ≤ r.length) (hw : r.length ≤ 3) (ho : isOrd os r = true) (hol : os.length ≤ 1000) (hl : ks.length ≤ 9) (hk : isKn ks = true) : run (PF.mk g s f ab) (k + 5) 14 [sceneD r os, ordD ks] [] = .ok (sceneD (nmd ks r) os) [] := by
  rw [show k + 5 = (k + 4) + 1 from rfl, run14]
  have c1 : callP (Ek g s f ab (k + 4)) 12 [ordD ks] [] = .ok (.bl true) [] := callE (r_known (k := k + 2) hl hk) (by simp)
  have c2 : callP (Ek g s f ab (k + 4)) 4 [sceneD r os, .int 1] [] = .ok (.bl true) [] := by
    refine callE ?_ (by simp)
    rw [r_scene (by omega) hol, ho]
    have a1 : (1 : Int) ≤ r.length := by omega
    have a2 : (r.length : Int) ≤ 3 := by omega
    have a3 : 0 < r.length := by omega
    simp [a1, a2, a3]
  obtain ⟨nd, e1, e2, e3⟩ := r_bare (g := g) (s := s) (f := f) (ab := ab) (k := k + 2) (ks := ks) (r := r) (kd := ordD ks) (fun h => rfl) (by simp) (by omega)
  have c3 : callP (Ek g s f ab (k + 4)) 6 [ordD ks, rowD r] [] = .ok nd [] := callE e1 (by simp)
  have c4 : callP (Ek g s f ab (k + 4)) 7 [nd, rowD r] [] = .ok (rowD (nmd ks r)) [] := callE e3 (by simp [e2])
  simp [PF.b14, PF.shs, arr, arr1, c1, c2, c3, c4, opSub, atI, ixN]
end
end EV

set_option Elab.async false
set_option linter.all false
set_option maxRecDepth 100000
set_option maxHeartbeats 4000000
/-! the laws' numbers: plain. -/
namespace EV
def cells (ns : List Int) : List Int := if ns = [] then [5] else ns.take 63
theorem cells_len (ns : List Int) : 0 < (cells ns).length ∧ (cells ns).length ≤ 63 := by
  unfold cells
  split
  · simp
  · rename_i h
    cases ns with
    | nil => exact absurd rfl h
    | cons a b => simp; omega
def cell (ns : List Int) (i : Int) : Int := (cells ns).getD (i % (cells ns).length).toNat 0 + 13 * (i / (cells ns).length)
def low (ns : List Int) (i : Int) : Int := cell ns i % 1000003
def high (ns : List Int) (i : Int) : Int := (cell ns i / 1000003) % 999983
def blend (ns : List Int) (i : Int) : Int := ((low ns i + 977 * i) * 48271 + 31 * high ns i + (cells ns).sum % 65521) % 2147483647
def num (ns : List Int) (i : Int) : Int := (blend ns i * (blend ns i + 31 * i + 7)) % 2147483629 * 65537 + high ns i
theorem num_pos (ns : List Int) (i : Int) : 0 ≤ num ns i := by
  unfold num
  have h1 : 0 ≤ high ns i := Int.emod_nonneg _ (by decide)
  have h2 : 0 ≤ (blend ns i * (blend ns i + 31 * i + 7)) % 2147483629 := Int.emod_nonneg _ (by decide)
  omega
/-- the code of number, as each law has it -/
def bNum : Ss := (.cons (.asg (.name 2) (.ife (.cmp .NotEq (.var 0) (.lst false .nil)) (.slc (.var 0) .no (.cint 63)) (.lst false (.cons (.cint 5) .nil))))
    (.cons (.asg (.name 3) (.bin .Add (.sub (.var 2) (.bin .Mod (.blt .int (.cons (.var 1) .nil)) (.blt .len (.cons (.var 2) .nil)))) (.bin .Mult (.cint 13) (.bin .FloorDiv (.var 1) (.blt .len (.cons (.var 2) .nil))))))
    (.cons (.par [6, 7] (.cons (.bin .Mod (.blt .int (.cons (.var 3) .nil)) (.cint 1000003)) (.cons (.bin .Mod (.blt .int (.cons (.bin .FloorDiv (.var 3) (.cint 1000003)) .nil)) (.cint 999983)) .nil)))
    (.cons (.asg (.name 4) (.bin .Mod (.blt .int (.cons (.blt .sum (.cons (.var 2) .nil)) .nil)) (.cint 65521)))
    (.cons (.asg (.name 5) (.bin .Mod (.blt .int (.cons (.bin .Add (.bin .Add (.bin .Mult (.bin .Add (.var 6) (.bin .Mult (.cint 977) (.var 1))) (.cint 48271)) (.bin .Mult (.cint 31) (.var 7))) (.var 4)) .nil)) (.cint 2147483647)))
    (.cons (.ret (.bin .Add (.bin .Mult (.bin .Mod (.blt .int (.cons (.bin .Mult (.var 5) (.bin .Add (.bin .Add (.var 5) (.bin .Mult (.cint 31) (.var 1))) (.cint 7))) .nil)) (.cint 2147483629)) (.cint 65537)) (.var 7)))
    .nil))))))
theorem getD_int {xs : List Int} {j : Nat} (h : j < xs.length) : (xs.map D.int)[j]? = some (.int (xs.getD j 0)) := by
  rw [List.getElem?_map, List.getD_eq_getElem?_getD, List.getElem?_eq_getElem h]
  rfl
theorem atI_int {xs : List Int} {i : Int} (h0 : 0 ≤ i) (h1 : i < xs.length) : atI (xs.map D.int) i = some (.int (xs.getD i.toNat 0)) := by
  unfold atI ixN
  simp only [List.length_map, h0, h1, if_true]
  exact getD_int (by omega)
theorem sub_lst {h : Hs} {xs : List Int} {i : Int} (h0 : 0 ≤ i) (h1 : i < xs.length) : opSub (.lst (xs.map .int)) (.int i) h = .ok (.int (xs.getD i.toNat 0)) h := by
  simp only [opSub, items_lst, atI_int h0 h1, optD_some]
theorem sub_tup {h : Hs} {xs : List Int} {i : Int} (h0 : 0 ≤ i) (h1 : i < xs.length) : opSub (.tup (xs.map .int)) (.int i) h = .ok (.int (xs.getD i.toNat 0)) h := by
  simp only [opSub, items_tup, atI_int h0 h1, optD_some]
theorem cut_take (xs : List D) (n : Nat) : cutD xs none (some (n : Int)) = xs.take n := by
  unfold cutD sIx
  simp only [List.drop_zero, Nat.sub_zero]
  rw [if_neg (by omega)]
  simp only [Int.toNat_natCast]
  rcases Nat.le_total n xs.length with h | h
  · rw [Nat.min_eq_left h]
  · rw [Nat.min_eq_right h, List.take_length, List.take_of_length_le h]
theorem ints_nil (ns : List Int) : D.beqs (ns.map .int) [] = decide (ns = []) := by
  cases ns <;> simp [D.beqs]
theorem ex_num {E : Ev} {ns : List Int} {i : Int} (h0 : 0 ≤ i) (h1 : i < 100000) : exSs E bNum [some (.lst (ns.map .int)), some (.int i), none, none, none, none, none, none] [] = .ret (.int (num ns i)) [] := by
  obtain ⟨c1, c2⟩ := cells_len ns
  have hl : (0 : Int) < (cells ns).length := by omega
  have hl2 : ((cells ns).length : Int) < 1073741824 := by omega
  have m0 : 0 ≤ i % ((cells ns).length : Int) := Int.emod_nonneg _ (by omega)
  have m1 : i % ((cells ns).length : Int) < (cells ns).length := Int.emod_lt_of_pos _ hl
  have eqE : opEq [] (.lst (ns.map .int)) (.lst []) = some (decide (ns = [])) := by
    rw [opEq_lst rfl rfl (okTs_ints _) rfl (by simp) (by simp [deps]), ints_nil]
  have first : ex E (.ife (.cmp .NotEq (.var 0) (.lst false .nil)) (.slc (.var 0) .no (.cint 63)) (.lst false (.cons (.cint 5) .nil))) false [some (.lst (ns.map .int)), some (.int i), none, none, none, none, none, none] [] = .ok (.lst ((cells ns).map .int)) [] := by
    unfold cells
    by_cases hn : ns = []
    · subst hn
      simp at eqE
      simp [eqE]
    · have sl : opSlc (.lst (ns.map .int)) .non (.int 63) [] = .ok (.lst ((ns.take 63).map .int)) [] := by
        show R.ok (D.lst (cutD (ns.map .int) none (some ((63 : Nat) : Int)))) [] = _
        rw [cut_take, List.map_take]
      simp [eqE, hn, sl]
  generalize hC : cells ns = C at *
  have bl : -18446744073709551616 < blend ns i ∧ blend ns i < 18446744073709551616 := by
    have h2 := Int.emod_nonneg ((low ns i + 977 * i) * 48271 + 31 * high ns i + (cells ns).sum % 65521) (show (2147483647 : Int) ≠ 0 by decide)
    have h3 := Int.emod_lt_of_pos ((low ns i + 977 * i) * 48271 + 31 * high ns i + (cells ns).sum % 65521) (show (0 : Int) < 2147483647 by decide)
    unfold blend
    omega
  unfold bNum
  rw [exSs_cons, exS_asg, first]
  simp [sub_lst m0 m1, mod_int hl, fdiv_int hl hl2, mul_l, mul_r, mod_int, fdiv_int]
  have eCell : C.getD (i % (C.length : Int)).toNat 0 + 13 * (i / (C.length : Int)) = cell ns i := by unfold cell; rw [hC]
  have eBl : (((cell ns i) % 1000003 + 977 * i) * 48271 + 31 * (cell ns i / 1000003 % 999983) + C.sum % 65521) % 2147483647 = blend ns i := by unfold blend low high; rw [hC]
  simp only [List.getD_eq_getElem?_getD] at eCell
  rw [eCell, eBl, mul_l bl]
  simp [mod_int, mul_r, num, high]
end EV

set_option Elab.async false
set_option linter.all false
set_option maxRecDepth 100000
/-! the defs of the program, opened. -/
namespace EV
open PySem
section
variable {g : List D} {s : List (List Sl)} {f : List Fn} {ab : List Nat} {k : Nat}
theorem rn0 {a0 : D} {h : Hs} : run (PF.mk g s f ab) (k + 1) 0 [a0] h = endS h.length (exSs (Ek g s f ab k) PF.b0 [some a0] h) := by kernel_rfl
theorem rn1 {a0 a1 : D} {h : Hs} : run (PF.mk g s f ab) (k + 1) 1 [a0, a1] h = endS h.length (exSs (Ek g s f ab k) PF.b1 [some a0, some a1] h) := by kernel_rfl
theorem rn2 {a0 a1 : D} {h : Hs} : run (PF.mk g s f ab) (k + 1) 2 [a0, a1] h = endS h.length (exSs (Ek g s f ab k) PF.b2 [some a0, some a1, none] h) := by kernel_rfl
theorem rn3 {a0 a1 : D} {h : Hs} : run (PF.mk g s f ab) (k + 1) 3 [a0, a1] h = endS h.length (exSs (Ek g s f ab k) PF.b3 [some a0, some a1, none, none, none] h) := by kernel_rfl
theorem rn4 {a0 a1 : D} {h : Hs} : run (PF.mk g s f ab) (k + 1) 4 [a0, a1] h = endS h.length (exSs (Ek g s f ab k) PF.b4 [some a0, some a1, none] h) := by kernel_rfl
theorem rn5 {a0 a1 : D} {h : Hs} : run (PF.mk g s f ab) (k + 1) 5 [a0, a1] h = endS h.length (exSs (Ek g s f ab k) PF.b5 [some a0, some a1, none] h) := by kernel_rfl
theorem rn6 {a0 a1 : D} {h : Hs} : run (PF.mk g s f ab) (k + 1) 6 [a0, a1] h = endS h.length (exSs (Ek g s f ab k) PF.b6 [some a0, some a1, none, none, none, none] h) := by kernel_rfl
theorem rn7 {a0 a1 : D} {h : Hs} : run (PF.mk g s f ab) (k + 1) 7 [a0, a1] h = endS h.length (exSs (Ek g s f ab k) PF.b7 [some a0, some a1, none] h) := by kernel_rfl
theorem rn8 {a0 a1 a2 : D} {h : Hs} : run (PF.mk g s f ab) (k + 1) 8 [a0, a1, a2] h = endS h.length (exSs (Ek g s f ab k) PF.b8 [some a0, some a1, some a2, none, none, none, none, none, none] h) := by kernel_rfl
theorem rn9 {a0 : D} {h : Hs} : run (PF.mk g s f ab) (k + 1) 9 [a0] h = endS h.length (exSs (Ek g s f ab k) PF.b9 [some a0, none, none, none, none] h) := by kernel_rfl
theorem rn10 {a0 : D} {h : Hs} : run (PF.mk g s f ab) (k + 1) 10 [a0] h = endS h.length (exSs (Ek g s f ab k) PF.b10 [some a0, none, none] h) := by kernel_rfl
theorem rn11 {a0 a1 : D} {h : Hs} : run (PF.mk g s f ab) (k + 1) 11 [a0, a1] h = endS h.length (exSs (Ek g s f ab k) PF.b11 [some a0, some a1, none, none, none, none, none, none] h) := by kernel_rfl
theorem rn12 {a0 : D} {h : Hs} : run (PF.mk g s f ab) (k + 1) 12 [a0] h = endS h.length (exSs (Ek g s f ab k) PF.b12 [some a0, none, none] h) := by kernel_rfl
theorem rn13 {a0 a1 : D} {h : Hs} : run (PF.mk g s f ab) (k + 1) 13 [a0, a1] h = endS h.length (exSs (Ek g s f ab k) PF.b13 [some a0, some a1] h) := by kernel_rfl
theorem rn14 {a0 a1 : D} {h : Hs} : run (PF.mk g s f ab) (k + 1) 14 [a0, a1] h = endS h.length (exSs (Ek g s f ab k) PF.b14 [some a0, some a1] h) := by kernel_rfl
theorem rn15 {a0 : D} {h : Hs} : run (PF.mk g s f ab) (k + 1) 15 [a0] h = endS h.length (exSs (Ek g s f ab k) PF.b15 [some a0] h) := by kernel_rfl
theorem rn16 {a0 a1 : D} {h : Hs} : run (PF.mk g s f ab) (k + 1) 16 [a0, a1] h = endS h.length (exSs (Ek g s f ab k) PF.b16 [some a0, some a1] h) := by kernel_rfl
theorem rn17 {a0 a1 a2 : D} {h : Hs} : run (PF.mk g s f ab) (k + 1) 17 [a0, a1, a2] h = endS h.length (exSs (Ek g s f ab k) PF.b17 [some a0, some a1, some a2, none, none, none, none] h) := by kernel_rfl
theorem rn18 {a0 a1 a2 : D} {h : Hs} : run (PF.mk g s f ab) (k + 1) 18 [a0, a1, a2] h = endS h.length (exSs (Ek g s f ab k) PF.b18 [some a0, some a1, some a2, none] h) := by kernel_rfl
theorem rn19 {a0 : D} {h : Hs} : run (PF.mk g s f ab) (k + 1) 19 [a0] h = endS h.length (exSs (Ek g s f ab k) PF.b19 [some a0, none, none] h) := by kernel_rfl
theorem rn20 {a0 : D} {h : Hs} : run (PF.mk g s f ab) (k + 1) 20 [a0] h = endS h.length (exSs (Ek g s f ab k) PF.b20 [some a0, none, none, none, none] h) := by kernel_rfl
theorem rn21 {a0 a1 : D} {h : Hs} : run (PF.mk g s f ab) (k + 1) 21 [a0, a1] h = endS h.length (exSs (Ek g s f ab k) PF.b21 [some a0, some a1] h) := by kernel_rfl
theorem rn22 {a0 a1 : D} {h : Hs} : run (PF.mk g s f ab) (k + 1) 22 [a0, a1] h = endS h.length (exSs (Ek g s f ab k) PF.b22 [some a0, some a1, none, none, none] h) := by kernel_rfl
theorem rn23 {a0 : D} {h : Hs} : run (PF.mk g s f ab) (k + 1) 23 [a0] h = endS h.length (exSs (Ek g s f ab k) PF.b23 [some a0] h) := by kernel_rfl
theorem rn24 {a0 : D} {h : Hs} : run (PF.mk g s f ab) (k + 1) 24 [a0] h = endS h.length (exSs (Ek g s f ab k) PF.b24 [some a0] h) := by kernel_rfl
theorem rn25 {a0 a1 : D} {h : Hs} : run (PF.mk g s f ab) (k + 1) 25 [a0, a1] h = endS h.length (exSs (Ek g s f ab k) PF.b25 [some a0, some a1, none] h) := by kernel_rfl
theorem rn26 {a0 a1 : D} {h : Hs} : run (PF.mk g s f ab) (k + 1) 26 [a0, a1] h = endS h.length (exSs (Ek g s f ab k) PF.b26 [some a0, some a1, none] h) := by kernel_rfl
theorem rn27 {a0 a1 : D} {h : Hs} : run (PF.mk g s f ab) (k + 1) 27 [a0, a1] h = endS h.length (exSs (Ek g s f ab k) PF.b27 [some a0, some a1, none, none, none, none] h) := by kernel_rfl
theorem rn28 {a0 : D} {h : Hs} : run (PF.mk g s f ab) (k + 1) 28 [a0] h = endS h.length (exSs (Ek g s f ab k) PF.b28 [some a0] h) := by kernel_rfl
theorem rn29 {a0 a1 : D} {h : Hs} : run (PF.mk g s f ab) (k + 1) 29 [a0, a1] h = endS h.length (exSs (Ek g s f ab k) PF.b29 [some a0, some a1] h) := by kernel_rfl
theorem rn30 {a0 a1 a2 : D} {h : Hs} : run (PF.mk g s f ab) (k + 1) 30 [a0, a1, a2] h = endS h.length (exSs (Ek g s f ab k) PF.b30 [some a0, some a1, some a2, none] h) := by kernel_rfl
theorem rn31 {a0 a1 : D} {h : Hs} : run (PF.mk g s f ab) (k + 1) 31 [a0, a1] h = endS h.length (exSs (Ek g s f ab k) PF.b31 [some a0, some a1, none, none, none, none, none, none, none, none, none, none, none] h) := by kernel_rfl
theorem rn32 {a0 a1 : D} {h : Hs} : run (PF.mk g s f ab) (k + 1) 32 [a0, a1] h = endS h.length (exSs (Ek g s f ab k) PF.b32 [some a0, some a1] h) := by kernel_rfl
theorem rn33 {a0 : D} {h : Hs} : run (PF.mk g s f ab) (k + 1) 33 [a0] h = endS h.length (exSs (Ek g s f ab k) PF.b33 [some a0] h) := by kernel_rfl
theorem rn34 {a0 a1 : D} {h : Hs} : run (PF.mk g s f ab) (k + 1) 34 [a0, a1] h = endS h.length (exSs (Ek g s f ab k) PF.b34 [some a0, some a1, none, none, none] h) := by kernel_rfl
theorem rn35 {a0 a1 : D} {h : Hs} : run (PF.mk g s f ab) (k + 1) 35 [a0, a1] h = endS h.length (exSs (Ek g s f ab k) PF.b35 [some a0, some a1] h) := by kernel_rfl
theorem rn36 {a0 a1 : D} {h : Hs} : run (PF.mk g s f ab) (k + 1) 36 [a0, a1] h = endS h.length (exSs (Ek g s f ab k) PF.b36 [some a0, some a1, none, none, none, none] h) := by kernel_rfl
theorem rn37 {a0 a1 : D} {h : Hs} : run (PF.mk g s f ab) (k + 1) 37 [a0, a1] h = endS h.length (exSs (Ek g s f ab k) PF.b37 [some a0, some a1, none, none, none, none, none] h) := by kernel_rfl
theorem rn38 {a0 a1 : D} {h : Hs} : run (PF.mk g s f ab) (k + 1) 38 [a0, a1] h = endS h.length (exSs (Ek g s f ab k) PF.b38 [some a0, some a1] h) := by kernel_rfl
theorem rn39 {a0 a1 a2 : D} {h : Hs} : run (PF.mk g s f ab) (k + 1) 39 [a0, a1, a2] h = endS h.length (exSs (Ek g s f ab k) PF.b39 [some a0, some a1, some a2] h) := by kernel_rfl
theorem rn40 {a0 a1 : D} {h : Hs} : run (PF.mk g s f ab) (k + 1) 40 [a0, a1] h = endS h.length (exSs (Ek g s f ab k) PF.b40 [some a0, some a1, none, none, none, none, none, none] h) := by kernel_rfl
theorem rn41 {a0 a1 : D} {h : Hs} : run (PF.mk g s f ab) (k + 1) 41 [a0, a1] h = endS h.length (exSs (Ek g s f ab k) PF.b41 [some a0, some a1] h) := by kernel_rfl
theorem rn42 {a0 a1 a2 : D} {h : Hs} : run (PF.mk g s f ab) (k + 1) 42 [a0, a1, a2] h = endS h.length (exSs (Ek g s f ab k) PF.b42 [some a0, some a1, some a2, none, none, none, none, none, none, none, none, none, none, none, none, none] h) := by kernel_rfl
theorem rn43 {a0 a1 a2 : D} {h : Hs} : run (PF.mk g s f ab) (k + 1) 43 [a0, a1, a2] h = endS h.length (exSs (Ek g s f ab k) PF.b43 [some a0, some a1, some a2] h) := by kernel_rfl
theorem rn44 {a0 a1 : D} {h : Hs} : run (PF.mk g s f ab) (k + 1) 44 [a0, a1] h = endS h.length (exSs (Ek g s f ab k) PF.b44 [some a0, some a1, none, none] h) := by kernel_rfl
theorem rn46 {a0 a1 : D} {h : Hs} : run (PF.mk g s f ab) (k + 1) 46 [a0, a1] h = endS h.length (exSs (Ek g s f ab k) PF.b46 [some a0, some a1, none] h) := by kernel_rfl
theorem rn47 {a0 a1 a2 : D} {h : Hs} : run (PF.mk g s f ab) (k + 1) 47 [a0, a1, a2] h = endS h.length (exSs (Ek g s f ab k) PF.b47 [some a0, some a1, some a2, none, none] h) := by kernel_rfl
theorem rn48 {a0 a1 a2 : D} {h : Hs} : run (PF.mk g s f ab) (k + 1) 48 [a0, a1, a2] h = endS h.length (exSs (Ek g s f ab k) PF.b48 [some a0, some a1, some a2, none] h) := by kernel_rfl
theorem rn49 {a0 a1 a2 : D} {h : Hs} : run (PF.mk g s f ab) (k + 1) 49 [a0, a1, a2] h = endS h.length (exSs (Ek g s f ab k) PF.b49 [some a0, some a1, some a2, none, none, none, none] h) := by kernel_rfl
theorem rn50 {a0 a1 a2 a3 : D} {h : Hs} : run (PF.mk g s f ab) (k + 1) 50 [a0, a1, a2, a3] h = endS h.length (exSs (Ek g s f ab k) PF.b50 [some a0, some a1, some a2, some a3, none, none, none] h) := by kernel_rfl
theorem rn51 {a0 a1 a2 : D} {h : Hs} : run (PF.mk g s f ab) (k + 1) 51 [a0, a1, a2] h = endS h.length (exSs (Ek g s f ab k) PF.b51 [some a0, some a1, some a2] h) := by kernel_rfl
theorem rn52 {a0 a1 : D} {h : Hs} : run (PF.mk g s f ab) (k + 1) 52 [a0, a1] h = endS h.length (exSs (Ek g s f ab k) PF.b52 [some a0, some a1, none, none, none, none, none, none, none, none, none, none] h) := by kernel_rfl
theorem rn53 {a0 a1 a2 : D} {h : Hs} : run (PF.mk g s f ab) (k + 1) 53 [a0, a1, a2] h = endS h.length (exSs (Ek g s f ab k) PF.b53 [some a0, some a1, some a2, none, none] h) := by kernel_rfl
theorem rn54 {a0 a1 : D} {h : Hs} : run (PF.mk g s f ab) (k + 1) 54 [a0, a1] h = endS h.length (exSs (Ek g s f ab k) PF.b54 [some a0, some a1, none, none, none, none] h) := by kernel_rfl
theorem rn55 {a0 a1 : D} {h : Hs} : run (PF.mk g s f ab) (k + 1) 55 [a0, a1] h = endS h.length (exSs (Ek g s f ab k) PF.b55 [some a0, some a1, none, none] h) := by kernel_rfl
theorem rn56 {a0 a1 : D} {h : Hs} : run (PF.mk g s f ab) (k + 1) 56 [a0, a1] h = endS h.length (exSs (Ek g s f ab k) PF.b56 [some a0, some a1, none, none] h) := by kernel_rfl
theorem rn57 {a0 a1 : D} {h : Hs} : run (PF.mk g s f ab) (k + 1) 57 [a0, a1] h = endS h.length (exSs (Ek g s f ab k) PF.b57 [some a0, some a1] h) := by kernel_rfl
theorem rn58 {a0 a1 : D} {h : Hs} : run (PF.mk g s f ab) (k + 1) 58 [a0, a1] h = endS h.length (exSs (Ek g s f ab k) PF.b58 [some a0, some a1, none] h) := by kernel_rfl
theorem rn59 {a0 : D} {h : Hs} : run (PF.mk g s f ab) (k + 1) 59 [a0] h = endS h.length (exSs (Ek g s f ab k) PF.b59 [some a0] h) := by kernel_rfl
theorem rn60 {a0 a1 : D} {h : Hs} : run (PF.mk g s f ab) (k + 1) 60 [a0, a1] h = endS h.length (exSs (Ek g s f ab k) PF.b60 [some a0, some a1, none, none, none, none, none, none] h) := by kernel_rfl
theorem rn61 {a0 a1 a2 : D} {h : Hs} : run (PF.mk g s f ab) (k + 1) 61 [a0, a1, a2] h = endS h.length (exSs (Ek g s f ab k) PF.b61 [some a0, some a1, some a2] h) := by kernel_rfl
theorem rn62 {a0 a1 a2 : D} {h : Hs} : run (PF.mk g s f ab) (k + 1) 62 [a0, a1, a2] h = endS h.length (exSs (Ek g s f ab k) PF.b62 [some a0, some a1, some a2] h) := by kernel_rfl
theorem rn63 {a0 a1 : D} {h : Hs} : run (PF.mk g s f ab) (k + 1) 63 [a0, a1] h = endS h.length (exSs (Ek g s f ab k) PF.b63 [some a0, some a1, none, none, none, none, none, none, none, none, none] h) := by kernel_rfl
theorem rn64 {a0 a1 : D} {h : Hs} : run (PF.mk g s f ab) (k + 1) 64 [a0, a1] h = endS h.length (exSs (Ek g s f ab k) PF.b64 [some a0, some a1, none, none] h) := by kernel_rfl
theorem rn65 {a0 a1 a2 : D} {h : Hs} : run (PF.mk g s f ab) (k + 1) 65 [a0, a1, a2] h = endS h.length (exSs (Ek g s f ab k) PF.b65 [some a0, some a1, some a2, none, none, none, none] h) := by kernel_rfl
theorem rn66 {a0 a1 : D} {h : Hs} : run (PF.mk g s f ab) (k + 1) 66 [a0, a1] h = endS h.length (exSs (Ek g s f ab k) PF.b66 [some a0, some a1, none, none] h) := by kernel_rfl
theorem rn67 {a0 a1 : D} {h : Hs} : run (PF.mk g s f ab) (k + 1) 67 [a0, a1] h = endS h.length (exSs (Ek g s f ab k) PF.b67 [some a0, some a1, none, none] h) := by kernel_rfl
theorem rn68 {a0 : D} {h : Hs} : run (PF.mk g s f ab) (k + 1) 68 [a0] h = endS h.length (exSs (Ek g s f ab k) PF.b68 [some a0] h) := by kernel_rfl
theorem rn69 {a0 : D} {h : Hs} : run (PF.mk g s f ab) (k + 1) 69 [a0] h = endS h.length (exSs (Ek g s f ab k) PF.b69 [some a0] h) := by kernel_rfl
theorem rn70 {a0 a1 : D} {h : Hs} : run (PF.mk g s f ab) (k + 1) 70 [a0, a1] h = endS h.length (exSs (Ek g s f ab k) PF.b70 [some a0, some a1, none] h) := by kernel_rfl
theorem rn71 {a0 a1 : D} {h : Hs} : run (PF.mk g s f ab) (k + 1) 71 [a0, a1] h = endS h.length (exSs (Ek g s f ab k) PF.b71 [some a0, some a1, none, none] h) := by kernel_rfl
theorem rn72 {a0 : D} {h : Hs} : run (PF.mk g s f ab) (k + 1) 72 [a0] h = endS h.length (exSs (Ek g s f ab k) PF.b72 [some a0, none, none, none, none] h) := by kernel_rfl
theorem rn73 {a0 : D} {h : Hs} : run (PF.mk g s f ab) (k + 1) 73 [a0] h = endS h.length (exSs (Ek g s f ab k) PF.b73 [some a0, none, none, none, none] h) := by kernel_rfl
theorem rn74 {a0 a1 : D} {h : Hs} : run (PF.mk g s f ab) (k + 1) 74 [a0, a1] h = endS h.length (exSs (Ek g s f ab k) PF.b74 [some a0, some a1, none, none, none] h) := by kernel_rfl
theorem rn75 {a0 a1 a2 : D} {h : Hs} : run (PF.mk g s f ab) (k + 1) 75 [a0, a1, a2] h = endS h.length (exSs (Ek g s f ab k) PF.b75 [some a0, some a1, some a2, none, none] h) := by kernel_rfl
theorem rn76 {a0 a1 : D} {h : Hs} : run (PF.mk g s f ab) (k + 1) 76 [a0, a1] h = endS h.length (exSs (Ek g s f ab k) PF.b76 [some a0, some a1, none, none] h) := by kernel_rfl
theorem rn77 {a0 : D} {h : Hs} : run (PF.mk g s f ab) (k + 1) 77 [a0] h = endS h.length (exSs (Ek g s f ab k) PF.b77 [some a0, none, none, none, none, none] h) := by kernel_rfl
theorem rn78 {a0 : D} {h : Hs} : run (PF.mk g s f ab) (k + 1) 78 [a0] h = endS h.length (exSs (Ek g s f ab k) PF.b78 [some a0, none, none, none, none] h) := by kernel_rfl
theorem rn79 {a0 a1 : D} {h : Hs} : run (PF.mk g s f ab) (k + 1) 79 [a0, a1] h = endS h.length (exSs (Ek g s f ab k) PF.b79 [some a0, some a1, none, none, none] h) := by kernel_rfl
theorem rn80 {a0 a1 a2 : D} {h : Hs} : run (PF.mk g s f ab) (k + 1) 80 [a0, a1, a2] h = endS h.length (exSs (Ek g s f ab k) PF.b80 [some a0, some a1, some a2, none, none] h) := by kernel_rfl
theorem rn81 {a0 : D} {h : Hs} : run (PF.mk g s f ab) (k + 1) 81 [a0] h = endS h.length (exSs (Ek g s f ab k) PF.b81 [some a0, none, none, none, none] h) := by kernel_rfl
theorem rn82 {a0 a1 a2 : D} {h : Hs} : run (PF.mk g s f ab) (k + 1) 82 [a0, a1, a2] h = endS h.length (exSs (Ek g s f ab k) PF.b82 [some a0, some a1, some a2, none, none, none, none, none, none] h) := by kernel_rfl
theorem rn83 {a0 a1 a2 : D} {h : Hs} : run (PF.mk g s f ab) (k + 1) 83 [a0, a1, a2] h = endS h.length (exSs (Ek g s f ab k) PF.b83 [some a0, some a1, some a2, none, none, none] h) := by kernel_rfl
theorem rn84 {a0 : D} {h : Hs} : run (PF.mk g s f ab) (k + 1) 84 [a0] h = endS h.length (exSs (Ek g s f ab k) PF.b84 [some a0, none, none, none, none, none, none, none, none, none] h) := by kernel_rfl
theorem rn85 {a0 a1 a2 : D} {h : Hs} : run (PF.mk g s f ab) (k + 1) 85 [a0, a1, a2] h = endS h.length (exSs (Ek g s f ab k) PF.b85 [some a0, some a1, some a2, none, none, none] h) := by kernel_rfl
theorem rn86 {a0 a1 a2 : D} {h : Hs} : run (PF.mk g s f ab) (k + 1) 86 [a0, a1, a2] h = endS h.length (exSs (Ek g s f ab k) PF.b86 [some a0, some a1, some a2, none, none, none] h) := by kernel_rfl
theorem rn87 {a0 a1 a2 a3 : D} {h : Hs} : run (PF.mk g s f ab) (k + 1) 87 [a0, a1, a2, a3] h = endS h.length (exSs (Ek g s f ab k) PF.b87 [some a0, some a1, some a2, some a3, none, none, none] h) := by kernel_rfl
theorem rn88 {a0 a1 : D} {h : Hs} : run (PF.mk g s f ab) (k + 1) 88 [a0, a1] h = endS h.length (exSs (Ek g s f ab k) PF.b88 [some a0, some a1, none, none, none, none, none, none, none, none, none, none] h) := by kernel_rfl
theorem rn89 {a0 a1 a2 a3 : D} {h : Hs} : run (PF.mk g s f ab) (k + 1) 89 [a0, a1, a2, a3] h = endS h.length (exSs (Ek g s f ab k) PF.b89 [some a0, some a1, some a2, some a3, none, none, none, none, none] h) := by kernel_rfl
theorem rn90 {a0 a1 a2 a3 : D} {h : Hs} : run (PF.mk g s f ab) (k + 1) 90 [a0, a1, a2, a3] h = endS h.length (exSs (Ek g s f ab k) PF.b90 [some a0, some a1, some a2, some a3, none, none, none, none, none, none, none, none, none] h) := by kernel_rfl
theorem rn91 {a0 a1 a2 a3 : D} {h : Hs} : run (PF.mk g s f ab) (k + 1) 91 [a0, a1, a2, a3] h = endS h.length (exSs (Ek g s f ab k) PF.b91 [some a0, some a1, some a2, some a3, none, none, none, none, none, none, none] h) := by kernel_rfl
theorem rn92 {a0 a1 a2 : D} {h : Hs} : run (PF.mk g s f ab) (k + 1) 92 [a0, a1, a2] h = endS h.length (exSs (Ek g s f ab k) PF.b92 [some a0, some a1, some a2] h) := by kernel_rfl
theorem rn93 {a0 : D} {h : Hs} : run (PF.mk g s f ab) (k + 1) 93 [a0] h = endS h.length (exSs (Ek g s f ab k) PF.b93 [some a0, none, none, none, none, none] h) := by kernel_rfl
theorem rn94 {a0 : D} {h : Hs} : run (PF.mk g s f ab) (k + 1) 94 [a0] h = endS h.length (exSs (Ek g s f ab k) PF.b94 [some a0] h) := by kernel_rfl
theorem rn95 {a0 : D} {h : Hs} : run (PF.mk g s f ab) (k + 1) 95 [a0] h = endS h.length (exSs (Ek g s f ab k) PF.b95 [some a0, none, none, none, none] h) := by kernel_rfl
theorem rn96 {a0 a1 : D} {h : Hs} : run (PF.mk g s f ab) (k + 1) 96 [a0, a1] h = endS h.length (exSs (Ek g s f ab k) PF.b96 [some a0, some a1] h) := by kernel_rfl
theorem rn97 {a0 a1 a2 : D} {h : Hs} : run (PF.mk g s f ab) (k + 1) 97 [a0, a1, a2] h = endS h.length (exSs (Ek g s f ab k) PF.b97 [some a0, some a1, some a2] h) := by kernel_rfl
theorem rn98 {a0 a1 a2 : D} {h : Hs} : run (PF.mk g s f ab) (k + 1) 98 [a0, a1, a2] h = endS h.length (exSs (Ek g s f ab k) PF.b98 [some a0, some a1, some a2, none, none, none] h) := by kernel_rfl
theorem rn99 {a0 a1 a2 : D} {h : Hs} : run (PF.mk g s f ab) (k + 1) 99 [a0, a1, a2] h = endS h.length (exSs (Ek g s f ab k) PF.b99 [some a0, some a1, some a2, none] h) := by kernel_rfl
theorem rn100 {a0 a1 a2 : D} {h : Hs} : run (PF.mk g s f ab) (k + 1) 100 [a0, a1, a2] h = endS h.length (exSs (Ek g s f ab k) PF.b100 [some a0, some a1, some a2, none, none, none, none, none, none, none, none] h) := by kernel_rfl
theorem rn101 {a0 a1 a2 a3 : D} {h : Hs} : run (PF.mk g s f ab) (k + 1) 101 [a0, a1, a2, a3] h = endS h.length (exSs (Ek g s f ab k) PF.b101 [some a0, some a1, some a2, some a3, none, none, none] h) := by kernel_rfl
theorem rn102 {a0 a1 a2 : D} {h : Hs} : run (PF.mk g s f ab) (k + 1) 102 [a0, a1, a2] h = endS h.length (exSs (Ek g s f ab k) PF.b102 [some a0, some a1, some a2, none, none, none, none, none, none, none, none] h) := by kernel_rfl
theorem rn103 {a0 a1 a2 : D} {h : Hs} : run (PF.mk g s f ab) (k + 1) 103 [a0, a1, a2] h = endS h.length (exSs (Ek g s f ab k) PF.b103 [some a0, some a1, some a2] h) := by kernel_rfl
theorem rn104 {a0 a1 a2 : D} {h : Hs} : run (PF.mk g s f ab) (k + 1) 104 [a0, a1, a2] h = endS h.length (exSs (Ek g s f ab k) PF.b104 [some a0, some a1, some a2] h) := by kernel_rfl
theorem rn105 {a0 a1 : D} {h : Hs} : run (PF.mk g s f ab) (k + 1) 105 [a0, a1] h = endS h.length (exSs (Ek g s f ab k) PF.b105 [some a0, some a1, none, none] h) := by kernel_rfl
theorem rn106 {a0 a1 : D} {h : Hs} : run (PF.mk g s f ab) (k + 1) 106 [a0, a1] h = endS h.length (exSs (Ek g s f ab k) PF.b106 [some a0, some a1, none] h) := by kernel_rfl
theorem rn107 {a0 : D} {h : Hs} : run (PF.mk g s f ab) (k + 1) 107 [a0] h = endS h.length (exSs (Ek g s f ab k) PF.b107 [some a0] h) := by kernel_rfl
theorem rn108 {a0 : D} {h : Hs} : run (PF.mk g s f ab) (k + 1) 108 [a0] h = endS h.length (exSs (Ek g s f ab k) PF.b108 [some a0] h) := by kernel_rfl
theorem rn109 {a0 : D} {h : Hs} : run (PF.mk g s f ab) (k + 1) 109 [a0] h = endS h.length (exSs (Ek g s f ab k) PF.b109 [some a0, none, none] h) := by kernel_rfl
theorem rn110 {a0 : D} {h : Hs} : run (PF.mk g s f ab) (k + 1) 110 [a0] h = endS h.length (exSs (Ek g s f ab k) PF.b110 [some a0, none] h) := by kernel_rfl
theorem rn111 {a0 : D} {h : Hs} : run (PF.mk g s f ab) (k + 1) 111 [a0] h = endS h.length (exSs (Ek g s f ab k) PF.b111 [some a0, none, none, none] h) := by kernel_rfl
theorem rn112 {a0 a1 : D} {h : Hs} : run (PF.mk g s f ab) (k + 1) 112 [a0, a1] h = endS h.length (exSs (Ek g s f ab k) PF.b112 [some a0, some a1, none, none, none, none] h) := by kernel_rfl
theorem rn113 {a0 : D} {h : Hs} : run (PF.mk g s f ab) (k + 1) 113 [a0] h = endS h.length (exSs (Ek g s f ab k) PF.b113 [some a0, none] h) := by kernel_rfl
theorem rn114 {a0 : D} {h : Hs} : run (PF.mk g s f ab) (k + 1) 114 [a0] h = endS h.length (exSs (Ek g s f ab k) PF.b114 [some a0, none] h) := by kernel_rfl
theorem rn115 {a0 : D} {h : Hs} : run (PF.mk g s f ab) (k + 1) 115 [a0] h = endS h.length (exSs (Ek g s f ab k) PF.b115 [some a0, none, none, none, none, none, none] h) := by kernel_rfl
theorem rn116 {a0 : D} {h : Hs} : run (PF.mk g s f ab) (k + 1) 116 [a0] h = endS h.length (exSs (Ek g s f ab k) PF.b116 [some a0, none] h) := by kernel_rfl
theorem rn117 {a0 a1 a2 : D} {h : Hs} : run (PF.mk g s f ab) (k + 1) 117 [a0, a1, a2] h = endS h.length (exSs (Ek g s f ab k) PF.b117 [some a0, some a1, some a2, none, none, none, none] h) := by kernel_rfl
theorem rn118 {a0 : D} {h : Hs} : run (PF.mk g s f ab) (k + 1) 118 [a0] h = endS h.length (exSs (Ek g s f ab k) PF.b118 [some a0, none, none, none, none, none, none, none, none, none] h) := by kernel_rfl
theorem rn119 {a0 : D} {h : Hs} : run (PF.mk g s f ab) (k + 1) 119 [a0] h = endS h.length (exSs (Ek g s f ab k) PF.b119 [some a0, none] h) := by kernel_rfl
theorem rn120 {a0 a1 : D} {h : Hs} : run (PF.mk g s f ab) (k + 1) 120 [a0, a1] h = endS h.length (exSs (Ek g s f ab k) PF.b120 [some a0, some a1, none] h) := by kernel_rfl
theorem rn121 {a0 : D} {h : Hs} : run (PF.mk g s f ab) (k + 1) 121 [a0] h = endS h.length (exSs (Ek g s f ab k) PF.b121 [some a0, none, none, none] h) := by kernel_rfl
theorem rn122 {a0 a1 : D} {h : Hs} : run (PF.mk g s f ab) (k + 1) 122 [a0, a1] h = endS h.length (exSs (Ek g s f ab k) PF.b122 [some a0, some a1, none, none, none, none, none, none, none] h) := by kernel_rfl
theorem rn123 {a0 a1 : D} {h : Hs} : run (PF.mk g s f ab) (k + 1) 123 [a0, a1] h = endS h.length (exSs (Ek g s f ab k) PF.b123 [some a0, some a1, none, none, none, none, none, none, none] h) := by kernel_rfl
theorem rn124 {a0 a1 : D} {h : Hs} : run (PF.mk g s f ab) (k + 1) 124 [a0, a1] h = endS h.length (exSs (Ek g s f ab k) PF.b124 [some a0, some a1] h) := by kernel_rfl
theorem rn125 {a0 a1 : D} {h : Hs} : run (PF.mk g s f ab) (k + 1) 125 [a0, a1] h = endS h.length (exSs (Ek g s f ab k) PF.b125 [some a0, some a1] h) := by kernel_rfl
theorem rn126 {a0 : D} {h : Hs} : run (PF.mk g s f ab) (k + 1) 126 [a0] h = endS h.length (exSs (Ek g s f ab k) PF.b126 [some a0] h) := by kernel_rfl
theorem rn127 {a0 a1 : D} {h : Hs} : run (PF.mk g s f ab) (k + 1) 127 [a0, a1] h = endS h.length (exSs (Ek g s f ab k) PF.b127 [some a0, some a1] h) := by kernel_rfl
theorem rn128 {a0 : D} {h : Hs} : run (PF.mk g s f ab) (k + 1) 128 [a0] h = endS h.length (exSs (Ek g s f ab k) PF.b128 [some a0] h) := by kernel_rfl
theorem rn129 {a0 a1 : D} {h : Hs} : run (PF.mk g s f ab) (k + 1) 129 [a0, a1] h = endS h.length (exSs (Ek g s f ab k) PF.b129 [some a0, some a1] h) := by kernel_rfl
theorem rn130 {a0 a1 : D} {h : Hs} : run (PF.mk g s f ab) (k + 1) 130 [a0, a1] h = endS h.length (exSs (Ek g s f ab k) PF.b130 [some a0, some a1] h) := by kernel_rfl
theorem rn131 {a0 a1 : D} {h : Hs} : run (PF.mk g s f ab) (k + 1) 131 [a0, a1] h = endS h.length (exSs (Ek g s f ab k) PF.b131 [some a0, some a1] h) := by kernel_rfl
theorem rn133 {a0 : D} {h : Hs} : run (PF.mk g s f ab) (k + 1) 133 [a0] h = endS h.length (exSs (Ek g s f ab k) PF.b133 [some a0] h) := by kernel_rfl
theorem rn134 {a0 : D} {h : Hs} : run (PF.mk g s f ab) (k + 1) 134 [a0] h = endS h.length (exSs (Ek g s f ab k) PF.b134 [some a0] h) := by kernel_rfl
theorem rn135 {a0 a1 : D} {h : Hs} : run (PF.mk g s f ab) (k + 1) 135 [a0, a1] h = endS h.length (exSs (Ek g s f ab k) PF.b135 [some a0, some a1] h) := by kernel_rfl
theorem rn136 {a0 : D} {h : Hs} : run (PF.mk g s f ab) (k + 1) 136 [a0] h = endS h.length (exSs (Ek g s f ab k) PF.b136 [some a0] h) := by kernel_rfl
theorem rn137 {a0 : D} {h : Hs} : run (PF.mk g s f ab) (k + 1) 137 [a0] h = endS h.length (exSs (Ek g s f ab k) PF.b137 [some a0, none] h) := by kernel_rfl
theorem rn138 {a0 a1 : D} {h : Hs} : run (PF.mk g s f ab) (k + 1) 138 [a0, a1] h = endS h.length (exSs (Ek g s f ab k) PF.b138 [some a0, some a1] h) := by kernel_rfl
theorem rn139 {a0 a1 a2 : D} {h : Hs} : run (PF.mk g s f ab) (k + 1) 139 [a0, a1, a2] h = endS h.length (exSs (Ek g s f ab k) PF.b139 [some a0, some a1, some a2] h) := by kernel_rfl
theorem rn140 {a0 a1 : D} {h : Hs} : run (PF.mk g s f ab) (k + 1) 140 [a0, a1] h = endS h.length (exSs (Ek g s f ab k) PF.b140 [some a0, some a1] h) := by kernel_rfl
theorem rn141 {a0 a1 : D} {h : Hs} : run (PF.mk g s f ab) (k + 1) 141 [a0, a1] h = endS h.length (exSs (Ek g s f ab k) PF.b141 [some a0, some a1] h) := by kernel_rfl
theorem rn142 {a0 a1 : D} {h : Hs} : run (PF.mk g s f ab) (k + 1) 142 [a0, a1] h = endS h.length (exSs (Ek g s f ab k) PF.b142 [some a0, some a1] h) := by kernel_rfl
theorem rn143 {a0 a1 : D} {h : Hs} : run (PF.mk g s f ab) (k + 1) 143 [a0, a1] h = endS h.length (exSs (Ek g s f ab k) PF.b143 [some a0, some a1] h) := by kernel_rfl
theorem rn144 {a0 a1 : D} {h : Hs} : run (PF.mk g s f ab) (k + 1) 144 [a0, a1] h = endS h.length (exSs (Ek g s f ab k) PF.b144 [some a0, some a1] h) := by kernel_rfl
theorem rn145 {a0 a1 : D} {h : Hs} : run (PF.mk g s f ab) (k + 1) 145 [a0, a1] h = endS h.length (exSs (Ek g s f ab k) PF.b145 [some a0, some a1] h) := by kernel_rfl
theorem rn146 {a0 a1 : D} {h : Hs} : run (PF.mk g s f ab) (k + 1) 146 [a0, a1] h = endS h.length (exSs (Ek g s f ab k) PF.b146 [some a0, some a1] h) := by kernel_rfl
theorem rn147 {a0 a1 : D} {h : Hs} : run (PF.mk g s f ab) (k + 1) 147 [a0, a1] h = endS h.length (exSs (Ek g s f ab k) PF.b147 [some a0, some a1] h) := by kernel_rfl
theorem rn148 {a0 a1 : D} {h : Hs} : run (PF.mk g s f ab) (k + 1) 148 [a0, a1] h = endS h.length (exSs (Ek g s f ab k) PF.b148 [some a0, some a1] h) := by kernel_rfl
theorem rn149 {a0 a1 : D} {h : Hs} : run (PF.mk g s f ab) (k + 1) 149 [a0, a1] h = endS h.length (exSs (Ek g s f ab k) PF.b149 [some a0, some a1] h) := by kernel_rfl
theorem rn150 {a0 a1 : D} {h : Hs} : run (PF.mk g s f ab) (k + 1) 150 [a0, a1] h = endS h.length (exSs (Ek g s f ab k) PF.b150 [some a0, some a1] h) := by kernel_rfl
theorem rn151 {a0 a1 : D} {h : Hs} : run (PF.mk g s f ab) (k + 1) 151 [a0, a1] h = endS h.length (exSs (Ek g s f ab k) PF.b151 [some a0, some a1] h) := by kernel_rfl
theorem rn152 {a0 a1 : D} {h : Hs} : run (PF.mk g s f ab) (k + 1) 152 [a0, a1] h = endS h.length (exSs (Ek g s f ab k) PF.b152 [some a0, some a1] h) := by kernel_rfl
theorem rn153 {a0 a1 : D} {h : Hs} : run (PF.mk g s f ab) (k + 1) 153 [a0, a1] h = endS h.length (exSs (Ek g s f ab k) PF.b153 [some a0, some a1] h) := by kernel_rfl
theorem rn154 {a0 a1 a2 a3 a4 : D} {h : Hs} : run (PF.mk g s f ab) (k + 1) 154 [a0, a1, a2, a3, a4] h = endS h.length (exSs (Ek g s f ab k) PF.b154 [some a0, some a1, some a2, some a3, some a4] h) := by kernel_rfl
theorem rn155 {a0 : D} {h : Hs} : run (PF.mk g s f ab) (k + 1) 155 [a0] h = endS h.length (exSs (Ek g s f ab k) PF.b155 [some a0, none] h) := by kernel_rfl
theorem rn156 {a0 a1 : D} {h : Hs} : run (PF.mk g s f ab) (k + 1) 156 [a0, a1] h = endS h.length (exSs (Ek g s f ab k) PF.b156 [some a0, some a1] h) := by kernel_rfl
theorem rn157 {a0 : D} {h : Hs} : run (PF.mk g s f ab) (k + 1) 157 [a0] h = endS h.length (exSs (Ek g s f ab k) PF.b157 [some a0] h) := by kernel_rfl
theorem rn158 {a0 : D} {h : Hs} : run (PF.mk g s f ab) (k + 1) 158 [a0] h = endS h.length (exSs (Ek g s f ab k) PF.b158 [some a0, none] h) := by kernel_rfl
theorem rn159 {a0 a1 : D} {h : Hs} : run (PF.mk g s f ab) (k + 1) 159 [a0, a1] h = endS h.length (exSs (Ek g s f ab k) PF.b159 [some a0, some a1] h) := by kernel_rfl
theorem rn160 {a0 a1 : D} {h : Hs} : run (PF.mk g s f ab) (k + 1) 160 [a0, a1] h = endS h.length (exSs (Ek g s f ab k) PF.b160 [some a0, some a1] h) := by kernel_rfl
theorem rn161 {a0 : D} {h : Hs} : run (PF.mk g s f ab) (k + 1) 161 [a0] h = endS h.length (exSs (Ek g s f ab k) PF.b161 [some a0] h) := by kernel_rfl
theorem rn162 {a0 a1 a2 : D} {h : Hs} : run (PF.mk g s f ab) (k + 1) 162 [a0, a1, a2] h = endS h.length (exSs (Ek g s f ab k) PF.b162 [some a0, some a1, some a2, none, none, none, none, none] h) := by kernel_rfl
theorem rn163 {a0 a1 : D} {h : Hs} : run (PF.mk g s f ab) (k + 1) 163 [a0, a1] h = endS h.length (exSs (Ek g s f ab k) PF.b163 [some a0, some a1] h) := by kernel_rfl
theorem rn164 {a0 a1 : D} {h : Hs} : run (PF.mk g s f ab) (k + 1) 164 [a0, a1] h = endS h.length (exSs (Ek g s f ab k) PF.b164 [some a0, some a1] h) := by kernel_rfl
theorem rn165 {a0 : D} {h : Hs} : run (PF.mk g s f ab) (k + 1) 165 [a0] h = endS h.length (exSs (Ek g s f ab k) PF.b165 [some a0] h) := by kernel_rfl
theorem rn166 {a0 : D} {h : Hs} : run (PF.mk g s f ab) (k + 1) 166 [a0] h = endS h.length (exSs (Ek g s f ab k) PF.b166 [some a0] h) := by kernel_rfl
theorem rn167 {a0 a1 a2 : D} {h : Hs} : run (PF.mk g s f ab) (k + 1) 167 [a0, a1, a2] h = endS h.length (exSs (Ek g s f ab k) PF.b167 [some a0, some a1, some a2, none, none, none] h) := by kernel_rfl
theorem rn168 {a0 a1 : D} {h : Hs} : run (PF.mk g s f ab) (k + 1) 168 [a0, a1] h = endS h.length (exSs (Ek g s f ab k) PF.b168 [some a0, some a1] h) := by kernel_rfl
theorem rn169 {a0 a1 : D} {h : Hs} : run (PF.mk g s f ab) (k + 1) 169 [a0, a1] h = endS h.length (exSs (Ek g s f ab k) PF.b169 [some a0, some a1] h) := by kernel_rfl
theorem rn170 {a0 : D} {h : Hs} : run (PF.mk g s f ab) (k + 1) 170 [a0] h = endS h.length (exSs (Ek g s f ab k) PF.b170 [some a0] h) := by kernel_rfl
theorem rn171 {a0 a1 a2 : D} {h : Hs} : run (PF.mk g s f ab) (k + 1) 171 [a0, a1, a2] h = endS h.length (exSs (Ek g s f ab k) PF.b171 [some a0, some a1, some a2, none, none, none, none, none] h) := by kernel_rfl
theorem rn172 {a0 a1 : D} {h : Hs} : run (PF.mk g s f ab) (k + 1) 172 [a0, a1] h = endS h.length (exSs (Ek g s f ab k) PF.b172 [some a0, some a1] h) := by kernel_rfl
theorem rn173 {a0 a1 : D} {h : Hs} : run (PF.mk g s f ab) (k + 1) 173 [a0, a1] h = endS h.length (exSs (Ek g s f ab k) PF.b173 [some a0, some a1] h) := by kernel_rfl
theorem rn174 {a0 : D} {h : Hs} : run (PF.mk g s f ab) (k + 1) 174 [a0] h = endS h.length (exSs (Ek g s f ab k) PF.b174 [some a0] h) := by kernel_rfl
theorem rn175 {a0 : D} {h : Hs} : run (PF.mk g s f ab) (k + 1) 175 [a0] h = endS h.length (exSs (Ek g s f ab k) PF.b175 [some a0] h) := by kernel_rfl
theorem rn176 {a0 a1 a2 : D} {h : Hs} : run (PF.mk g s f ab) (k + 1) 176 [a0, a1, a2] h = endS h.length (exSs (Ek g s f ab k) PF.b176 [some a0, some a1, some a2, none, none] h) := by kernel_rfl
theorem rn177 {a0 a1 a2 : D} {h : Hs} : run (PF.mk g s f ab) (k + 1) 177 [a0, a1, a2] h = endS h.length (exSs (Ek g s f ab k) PF.b177 [some a0, some a1, some a2] h) := by kernel_rfl
theorem rn178 {a0 a1 : D} {h : Hs} : run (PF.mk g s f ab) (k + 1) 178 [a0, a1] h = endS h.length (exSs (Ek g s f ab k) PF.b178 [some a0, some a1] h) := by kernel_rfl
theorem rn179 {a0 : D} {h : Hs} : run (PF.mk g s f ab) (k + 1) 179 [a0] h = endS h.length (exSs (Ek g s f ab k) PF.b179 [some a0] h) := by kernel_rfl
theorem rn180 {a0 a1 : D} {h : Hs} : run (PF.mk g s f ab) (k + 1) 180 [a0, a1] h = endS h.length (exSs (Ek g s f ab k) PF.b180 [some a0, some a1, none, none, none] h) := by kernel_rfl
theorem rn181 {a0 a1 : D} {h : Hs} : run (PF.mk g s f ab) (k + 1) 181 [a0, a1] h = endS h.length (exSs (Ek g s f ab k) PF.b181 [some a0, some a1] h) := by kernel_rfl
theorem rn182 {a0 a1 : D} {h : Hs} : run (PF.mk g s f ab) (k + 1) 182 [a0, a1] h = endS h.length (exSs (Ek g s f ab k) PF.b182 [some a0, some a1] h) := by kernel_rfl
theorem rn183 {a0 : D} {h : Hs} : run (PF.mk g s f ab) (k + 1) 183 [a0] h = endS h.length (exSs (Ek g s f ab k) PF.b183 [some a0] h) := by kernel_rfl
theorem rn184 {a0 a1 : D} {h : Hs} : run (PF.mk g s f ab) (k + 1) 184 [a0, a1] h = endS h.length (exSs (Ek g s f ab k) PF.b184 [some a0, some a1, none, none, none] h) := by kernel_rfl
theorem rn185 {a0 a1 a2 a3 : D} {h : Hs} : run (PF.mk g s f ab) (k + 1) 185 [a0, a1, a2, a3] h = endS h.length (exSs (Ek g s f ab k) PF.b185 [some a0, some a1, some a2, some a3] h) := by kernel_rfl
theorem rn186 {a0 a1 : D} {h : Hs} : run (PF.mk g s f ab) (k + 1) 186 [a0, a1] h = endS h.length (exSs (Ek g s f ab k) PF.b186 [some a0, some a1] h) := by kernel_rfl
theorem rn187 {a0 : D} {h : Hs} : run (PF.mk g s f ab) (k + 1) 187 [a0] h = endS h.length (exSs (Ek g s f ab k) PF.b187 [some a0] h) := by kernel_rfl
theorem rn188 {a0 : D} {h : Hs} : run (PF.mk g s f ab) (k + 1) 188 [a0] h = endS h.length (exSs (Ek g s f ab k) PF.b188 [some a0] h) := by kernel_rfl
theorem rn189 {a0 a1 : D} {h : Hs} : run (PF.mk g s f ab) (k + 1) 189 [a0, a1] h = endS h.length (exSs (Ek g s f ab k) PF.b189 [some a0, some a1, none, none, none, none] h) := by kernel_rfl
theorem rn190 {a0 a1 a2 : D} {h : Hs} : run (PF.mk g s f ab) (k + 1) 190 [a0, a1, a2] h = endS h.length (exSs (Ek g s f ab k) PF.b190 [some a0, some a1, some a2, none] h) := by kernel_rfl
theorem rn191 {a0 a1 : D} {h : Hs} : run (PF.mk g s f ab) (k + 1) 191 [a0, a1] h = endS h.length (exSs (Ek g s f ab k) PF.b191 [some a0, some a1] h) := by kernel_rfl
theorem rn192 {a0 : D} {h : Hs} : run (PF.mk g s f ab) (k + 1) 192 [a0] h = endS h.length (exSs (Ek g s f ab k) PF.b192 [some a0] h) := by kernel_rfl
theorem rn193 {a0 a1 a2 a3 : D} {h : Hs} : run (PF.mk g s f ab) (k + 1) 193 [a0, a1, a2, a3] h = endS h.length (exSs (Ek g s f ab k) PF.b193 [some a0, some a1, some a2, some a3, none, none, none] h) := by kernel_rfl
theorem rn194 {a0 a1 : D} {h : Hs} : run (PF.mk g s f ab) (k + 1) 194 [a0, a1] h = endS h.length (exSs (Ek g s f ab k) PF.b194 [some a0, some a1] h) := by kernel_rfl
theorem rn195 {a0 : D} {h : Hs} : run (PF.mk g s f ab) (k + 1) 195 [a0] h = endS h.length (exSs (Ek g s f ab k) PF.b195 [some a0] h) := by kernel_rfl
theorem rn196 {a0 : D} {h : Hs} : run (PF.mk g s f ab) (k + 1) 196 [a0] h = endS h.length (exSs (Ek g s f ab k) PF.b196 [some a0] h) := by kernel_rfl
theorem rn197 {a0 a1 : D} {h : Hs} : run (PF.mk g s f ab) (k + 1) 197 [a0, a1] h = endS h.length (exSs (Ek g s f ab k) PF.b197 [some a0, some a1] h) := by kernel_rfl
theorem rn198 {a0 a1 a2 : D} {h : Hs} : run (PF.mk g s f ab) (k + 1) 198 [a0, a1, a2] h = endS h.length (exSs (Ek g s f ab k) PF.b198 [some a0, some a1, some a2, none, none, none, none, none, none, none] h) := by kernel_rfl
theorem rn199 {a0 a1 a2 : D} {h : Hs} : run (PF.mk g s f ab) (k + 1) 199 [a0, a1, a2] h = endS h.length (exSs (Ek g s f ab k) PF.b199 [some a0, some a1, some a2] h) := by kernel_rfl
theorem rn200 {a0 : D} {h : Hs} : run (PF.mk g s f ab) (k + 1) 200 [a0] h = endS h.length (exSs (Ek g s f ab k) PF.b200 [some a0] h) := by kernel_rfl
theorem rn201 {a0 a1 : D} {h : Hs} : run (PF.mk g s f ab) (k + 1) 201 [a0, a1] h = endS h.length (exSs (Ek g s f ab k) PF.b201 [some a0, some a1, none, none, none, none] h) := by kernel_rfl
theorem rn202 {a0 : D} {h : Hs} : run (PF.mk g s f ab) (k + 1) 202 [a0] h = endS h.length (exSs (Ek g s f ab k) PF.b202 [some a0, none] h) := by kernel_rfl
theorem rn203 {a0 : D} {h : Hs} : run (PF.mk g s f ab) (k + 1) 203 [a0] h = endS h.length (exSs (Ek g s f ab k) PF.b203 [some a0, none] h) := by kernel_rfl
theorem rn204 {a0 : D} {h : Hs} : run (PF.mk g s f ab) (k + 1) 204 [a0] h = endS h.length (exSs (Ek g s f ab k) PF.b204 [some a0, none, none] h) := by kernel_rfl
theorem rn205 {a0 : D} {h : Hs} : run (PF.mk g s f ab) (k + 1) 205 [a0] h = endS h.length (exSs (Ek g s f ab k) PF.b205 [some a0, none] h) := by kernel_rfl
theorem rn206 {a0 a1 : D} {h : Hs} : run (PF.mk g s f ab) (k + 1) 206 [a0, a1] h = endS h.length (exSs (Ek g s f ab k) PF.b206 [some a0, some a1, none, none, none] h) := by kernel_rfl
theorem rn207 {a0 a1 : D} {h : Hs} : run (PF.mk g s f ab) (k + 1) 207 [a0, a1] h = endS h.length (exSs (Ek g s f ab k) PF.b207 [some a0, some a1, none, none] h) := by kernel_rfl
theorem rn208 {a0 a1 a2 : D} {h : Hs} : run (PF.mk g s f ab) (k + 1) 208 [a0, a1, a2] h = endS h.length (exSs (Ek g s f ab k) PF.b208 [some a0, some a1, some a2, none, none, none, none, none, none, none] h) := by kernel_rfl
theorem rn209 {a0 a1 a2 : D} {h : Hs} : run (PF.mk g s f ab) (k + 1) 209 [a0, a1, a2] h = endS h.length (exSs (Ek g s f ab k) PF.b209 [some a0, some a1, some a2] h) := by kernel_rfl
theorem rn210 {a0 : D} {h : Hs} : run (PF.mk g s f ab) (k + 1) 210 [a0] h = endS h.length (exSs (Ek g s f ab k) PF.b210 [some a0] h) := by kernel_rfl
theorem rn211 {a0 a1 : D} {h : Hs} : run (PF.mk g s f ab) (k + 1) 211 [a0, a1] h = endS h.length (exSs (Ek g s f ab k) PF.b211 [some a0, some a1, none, none] h) := by kernel_rfl
theorem rn212 {a0 : D} {h : Hs} : run (PF.mk g s f ab) (k + 1) 212 [a0] h = endS h.length (exSs (Ek g s f ab k) PF.b212 [some a0] h) := by kernel_rfl
theorem rn213 {a0 : D} {h : Hs} : run (PF.mk g s f ab) (k + 1) 213 [a0] h = endS h.length (exSs (Ek g s f ab k) PF.b213 [some a0] h) := by kernel_rfl
theorem rn214 {a0 a1 : D} {h : Hs} : run (PF.mk g s f ab) (k + 1) 214 [a0, a1] h = endS h.length (exSs (Ek g s f ab k) PF.b214 [some a0, some a1, none, none] h) := by kernel_rfl
theorem rn215 {a0 a1 a2 : D} {h : Hs} : run (PF.mk g s f ab) (k + 1) 215 [a0, a1, a2] h = endS h.length (exSs (Ek g s f ab k) PF.b215 [some a0, some a1, some a2] h) := by kernel_rfl
theorem rn216 {a0 a1 : D} {h : Hs} : run (PF.mk g s f ab) (k + 1) 216 [a0, a1] h = endS h.length (exSs (Ek g s f ab k) PF.b216 [some a0, some a1, none, none] h) := by kernel_rfl
theorem rn217 {a0 a1 : D} {h : Hs} : run (PF.mk g s f ab) (k + 1) 217 [a0, a1] h = endS h.length (exSs (Ek g s f ab k) PF.b217 [some a0, some a1, none, none] h) := by kernel_rfl
theorem rn218 {a0 a1 a2 : D} {h : Hs} : run (PF.mk g s f ab) (k + 1) 218 [a0, a1, a2] h = endS h.length (exSs (Ek g s f ab k) PF.b218 [some a0, some a1, some a2, none, none] h) := by kernel_rfl
theorem rn219 {a0 a1 : D} {h : Hs} : run (PF.mk g s f ab) (k + 1) 219 [a0, a1] h = endS h.length (exSs (Ek g s f ab k) PF.b219 [some a0, some a1] h) := by kernel_rfl
theorem rn220 {a0 a1 : D} {h : Hs} : run (PF.mk g s f ab) (k + 1) 220 [a0, a1] h = endS h.length (exSs (Ek g s f ab k) PF.b220 [some a0, some a1] h) := by kernel_rfl
theorem rn221 {a0 : D} {h : Hs} : run (PF.mk g s f ab) (k + 1) 221 [a0] h = endS h.length (exSs (Ek g s f ab k) PF.b221 [some a0] h) := by kernel_rfl
theorem rn222 {a0 : D} {h : Hs} : run (PF.mk g s f ab) (k + 1) 222 [a0] h = endS h.length (exSs (Ek g s f ab k) PF.b222 [some a0] h) := by kernel_rfl
theorem rn223 {a0 : D} {h : Hs} : run (PF.mk g s f ab) (k + 1) 223 [a0] h = endS h.length (exSs (Ek g s f ab k) PF.b223 [some a0] h) := by kernel_rfl
theorem rn224 {a0 : D} {h : Hs} : run (PF.mk g s f ab) (k + 1) 224 [a0] h = endS h.length (exSs (Ek g s f ab k) PF.b224 [some a0] h) := by kernel_rfl
theorem rn225 {a0 a1 : D} {h : Hs} : run (PF.mk g s f ab) (k + 1) 225 [a0, a1] h = endS h.length (exSs (Ek g s f ab k) PF.b225 [some a0, some a1] h) := by kernel_rfl
theorem rn226 {a0 a1 a2 : D} {h : Hs} : run (PF.mk g s f ab) (k + 1) 226 [a0, a1, a2] h = endS h.length (exSs (Ek g s f ab k) PF.b226 [some a0, some a1, some a2] h) := by kernel_rfl
theorem rn227 {a0 : D} {h : Hs} : run (PF.mk g s f ab) (k + 1) 227 [a0] h = endS h.length (exSs (Ek g s f ab k) PF.b227 [some a0] h) := by kernel_rfl
theorem rn228 {a0 : D} {h : Hs} : run (PF.mk g s f ab) (k + 1) 228 [a0] h = endS h.length (exSs (Ek g s f ab k) PF.b228 [some a0, none, none] h) := by kernel_rfl
theorem rn229 {a0 : D} {h : Hs} : run (PF.mk g s f ab) (k + 1) 229 [a0] h = endS h.length (exSs (Ek g s f ab k) PF.b229 [some a0, none, none] h) := by kernel_rfl
theorem rn230 {a0 : D} {h : Hs} : run (PF.mk g s f ab) (k + 1) 230 [a0] h = endS h.length (exSs (Ek g s f ab k) PF.b230 [some a0] h) := by kernel_rfl
theorem rn231 {a0 a1 : D} {h : Hs} : run (PF.mk g s f ab) (k + 1) 231 [a0, a1] h = endS h.length (exSs (Ek g s f ab k) PF.b231 [some a0, some a1] h) := by kernel_rfl
theorem rn232 {a0 : D} {h : Hs} : run (PF.mk g s f ab) (k + 1) 232 [a0] h = endS h.length (exSs (Ek g s f ab k) PF.b232 [some a0] h) := by kernel_rfl
@[simp] theorem sh0 : (PF.shs ++ s)[0]? = some [.pos 0] := by kernel_rfl
@[simp] theorem sh1 : (PF.shs ++ s)[1]? = some [.pos 0, .pos 1] := by kernel_rfl
@[simp] theorem sh2 : (PF.shs ++ s)[2]? = some [.pos 0, .pos 1] := by kernel_rfl
@[simp] theorem sh3 : (PF.shs ++ s)[3]? = some [.pos 0, .pos 1] := by kernel_rfl
@[simp] theorem sh4 : (PF.shs ++ s)[4]? = some [.pos 0, .pos 1] := by kernel_rfl
@[simp] theorem sh5 : (PF.shs ++ s)[5]? = some [.pos 0, .pos 1, .pos 2] := by kernel_rfl
@[simp] theorem sh6 : (PF.shs ++ s)[6]? = some [.pos 0] := by kernel_rfl
@[simp] theorem sh7 : (PF.shs ++ s)[7]? = some [.pos 0] := by kernel_rfl
@[simp] theorem sh8 : (PF.shs ++ s)[8]? = some [.pos 0, .pos 1] := by kernel_rfl
@[simp] theorem sh9 : (PF.shs ++ s)[9]? = some [.pos 0] := by kernel_rfl
@[simp] theorem sh10 : (PF.shs ++ s)[10]? = some [.pos 0, .pos 1] := by kernel_rfl
@[simp] theorem sh11 : (PF.shs ++ s)[11]? = some [.pos 0, .pos 1] := by kernel_rfl
@[simp] theorem sh12 : (PF.shs ++ s)[12]? = some [.pos 0, .pos 1] := by kernel_rfl
@[simp] theorem sh13 : (PF.shs ++ s)[13]? = some [.pos 0] := by kernel_rfl
@[simp] theorem sh14 : (PF.shs ++ s)[14]? = some [.pos 0, .pos 1] := by kernel_rfl
@[simp] theorem sh15 : (PF.shs ++ s)[15]? = some [.pos 0, .pos 1, .pos 2] := by kernel_rfl
@[simp] theorem sh16 : (PF.shs ++ s)[16]? = some [.pos 0] := by kernel_rfl
@[simp] theorem sh17 : (PF.shs ++ s)[17]? = some [.pos 0] := by kernel_rfl
@[simp] theorem sh18 : (PF.shs ++ s)[18]? = some [.pos 0, .pos 1] := by kernel_rfl
@[simp] theorem sh19 : (PF.shs ++ s)[19]? = some [.pos 0, .pos 1, .pos 2] := by kernel_rfl
@[simp] theorem sh20 : (PF.shs ++ s)[20]? = some [.pos 0, .pos 1, .pos 2] := by kernel_rfl
@[simp] theorem sh21 : (PF.shs ++ s)[21]? = some [.pos 0, .pos 1] := by kernel_rfl
@[simp] theorem sh22 : (PF.shs ++ s)[22]? = some [.pos 0] := by kernel_rfl
@[simp] theorem sh23 : (PF.shs ++ s)[23]? = some [.pos 0, .pos 1] := by kernel_rfl
@[simp] theorem sh24 : (PF.shs ++ s)[24]? = some [.pos 0, .pos 1] := by kernel_rfl
@[simp] theorem sh25 : (PF.shs ++ s)[25]? = some [.pos 0, .pos 1] := by kernel_rfl
@[simp] theorem sh26 : (PF.shs ++ s)[26]? = some [.pos 0, .pos 1] := by kernel_rfl
@[simp] theorem sh27 : (PF.shs ++ s)[27]? = some [.pos 0, .pos 1] := by kernel_rfl
@[simp] theorem sh28 : (PF.shs ++ s)[28]? = some [.pos 0, .pos 1, .pos 2] := by kernel_rfl
@[simp] theorem sh29 : (PF.shs ++ s)[29]? = some [.pos 0, .pos 1, .pos 2] := by kernel_rfl
@[simp] theorem sh30 : (PF.shs ++ s)[30]? = some [.pos 0, .pos 1, .pos 2, .pos 3] := by kernel_rfl
@[simp] theorem sh31 : (PF.shs ++ s)[31]? = some [.pos 0, .pos 1] := by kernel_rfl
@[simp] theorem sh32 : (PF.shs ++ s)[32]? = some [.pos 0, .pos 1, .pos 2] := by kernel_rfl
@[simp] theorem sh33 : (PF.shs ++ s)[33]? = some [.pos 0, .pos 1, .pos 2] := by kernel_rfl
@[simp] theorem sh34 : (PF.shs ++ s)[34]? = some [.pos 0, .pos 1, .pos 2, .pos 3] := by kernel_rfl
@[simp] theorem sh35 : (PF.shs ++ s)[35]? = some [.pos 0] := by kernel_rfl
@[simp] theorem sh36 : (PF.shs ++ s)[36]? = some [.pos 0, .pos 1, .pos 2] := by kernel_rfl
@[simp] theorem sh37 : (PF.shs ++ s)[37]? = some [.pos 0, .pos 1] := by kernel_rfl
@[simp] theorem sh38 : (PF.shs ++ s)[38]? = some [.pos 0, .pos 1] := by kernel_rfl
@[simp] theorem sh39 : (PF.shs ++ s)[39]? = some [.pos 0, .pos 1, .pos 2] := by kernel_rfl
@[simp] theorem sh40 : (PF.shs ++ s)[40]? = some [.pos 0, .pos 1] := by kernel_rfl
@[simp] theorem sh41 : (PF.shs ++ s)[41]? = some [.pos 0, .pos 1] := by kernel_rfl
@[simp] theorem sh42 : (PF.shs ++ s)[42]? = some [.pos 0, .pos 1] := by kernel_rfl
@[simp] theorem sh43 : (PF.shs ++ s)[43]? = some [.pos 0] := by kernel_rfl
@[simp] theorem sh44 : (PF.shs ++ s)[44]? = some [.pos 0, .pos 1, .pos 2] := by kernel_rfl
@[simp] theorem sh45 : (PF.shs ++ s)[45]? = some [.pos 0, .pos 1] := by kernel_rfl
@[simp] theorem sh46 : (PF.shs ++ s)[46]? = some [.pos 0, .pos 1, .pos 2] := by kernel_rfl
@[simp] theorem sh47 : (PF.shs ++ s)[47]? = some [.pos 0, .pos 1] := by kernel_rfl
@[simp] theorem sh48 : (PF.shs ++ s)[48]? = some [.pos 0, .pos 1] := by kernel_rfl
@[simp] theorem sh49 : (PF.shs ++ s)[49]? = some [.pos 0, .pos 1, .pos 2] := by kernel_rfl
@[simp] theorem sh50 : (PF.shs ++ s)[50]? = some [.pos 0, .pos 1] := by kernel_rfl
@[simp] theorem sh51 : (PF.shs ++ s)[51]? = some [.pos 0, .pos 1] := by kernel_rfl
@[simp] theorem sh52 : (PF.shs ++ s)[52]? = some [.pos 0, .pos 1] := by kernel_rfl
@[simp] theorem sh53 : (PF.shs ++ s)[53]? = some [.pos 0, .pos 1] := by kernel_rfl
@[simp] theorem sh54 : (PF.shs ++ s)[54]? = some [.pos 0] := by kernel_rfl
@[simp] theorem sh55 : (PF.shs ++ s)[55]? = some [.pos 0] := by kernel_rfl
@[simp] theorem sh56 : (PF.shs ++ s)[56]? = some [.pos 0, .pos 1] := by kernel_rfl
@[simp] theorem sh57 : (PF.shs ++ s)[57]? = some [.pos 0, .pos 1] := by kernel_rfl
@[simp] theorem sh58 : (PF.shs ++ s)[58]? = some [.pos 0] := by kernel_rfl
@[simp] theorem sh59 : (PF.shs ++ s)[59]? = some [.pos 0] := by kernel_rfl
@[simp] theorem sh60 : (PF.shs ++ s)[60]? = some [.pos 0, .pos 1, .pos 2] := by kernel_rfl
@[simp] theorem sh61 : (PF.shs ++ s)[61]? = some [.pos 0, .pos 1] := by kernel_rfl
@[simp] theorem sh62 : (PF.shs ++ s)[62]? = some [.pos 0, .pos 1, .pos 2] := by kernel_rfl
@[simp] theorem sh63 : (PF.shs ++ s)[63]? = some [.pos 0, .pos 1, .pos 2] := by kernel_rfl
@[simp] theorem sh64 : (PF.shs ++ s)[64]? = some [.pos 0, .pos 1, .pos 2, .pos 3] := by kernel_rfl
@[simp] theorem sh65 : (PF.shs ++ s)[65]? = some [.pos 0, .pos 1, .pos 2] := by kernel_rfl
@[simp] theorem sh66 : (PF.shs ++ s)[66]? = some [.pos 0, .pos 1, .pos 2] := by kernel_rfl
@[simp] theorem sh67 : (PF.shs ++ s)[67]? = some [.pos 0, .pos 1, .pos 2, .pos 3] := by kernel_rfl
@[simp] theorem sh68 : (PF.shs ++ s)[68]? = some [.pos 0, .pos 1, .pos 2, .pos 3] := by kernel_rfl
@[simp] theorem sh69 : (PF.shs ++ s)[69]? = some [.pos 0, .pos 1, .pos 2, .pos 3] := by kernel_rfl
@[simp] theorem sh70 : (PF.shs ++ s)[70]? = some [.pos 0, .pos 1] := by kernel_rfl
@[simp] theorem sh71 : (PF.shs ++ s)[71]? = some [.pos 0, .pos 1] := by kernel_rfl
@[simp] theorem sh72 : (PF.shs ++ s)[72]? = some [.pos 0] := by kernel_rfl
@[simp] theorem sh73 : (PF.shs ++ s)[73]? = some [.pos 0] := by kernel_rfl
@[simp] theorem sh74 : (PF.shs ++ s)[74]? = some [.pos 0, .pos 1, .pos 2] := by kernel_rfl
@[simp] theorem sh75 : (PF.shs ++ s)[75]? = some [.pos 0, .pos 1, .pos 2] := by kernel_rfl
@[simp] theorem sh76 : (PF.shs ++ s)[76]? = some [.pos 0, .pos 1, .pos 2] := by kernel_rfl
@[simp] theorem sh77 : (PF.shs ++ s)[77]? = some [.pos 0, .pos 1, .pos 2] := by kernel_rfl
@[simp] theorem sh78 : (PF.shs ++ s)[78]? = some [.pos 0, .pos 1, .pos 2] := by kernel_rfl
@[simp] theorem sh79 : (PF.shs ++ s)[79]? = some [.pos 0, .pos 1, .pos 2] := by kernel_rfl
@[simp] theorem sh80 : (PF.shs ++ s)[80]? = some [.pos 0] := by kernel_rfl
@[simp] theorem sh81 : (PF.shs ++ s)[81]? = some [.pos 0] := by kernel_rfl
@[simp] theorem sh82 : (PF.shs ++ s)[82]? = some [.pos 0, .pos 1] := by kernel_rfl
@[simp] theorem sh83 : (PF.shs ++ s)[83]? = some [.pos 0] := by kernel_rfl
@[simp] theorem sh84 : (PF.shs ++ s)[84]? = some [.pos 0] := by kernel_rfl
@[simp] theorem sh85 : (PF.shs ++ s)[85]? = some [.pos 0, .pos 1] := by kernel_rfl
@[simp] theorem sh86 : (PF.shs ++ s)[86]? = some [.pos 0, .dfl (.int 0)] := by kernel_rfl
@[simp] theorem sh87 : (PF.shs ++ s)[87]? = some [.pos 0] := by kernel_rfl
@[simp] theorem sh88 : (PF.shs ++ s)[88]? = some [.pos 0, .pos 1] := by kernel_rfl
@[simp] theorem sh89 : (PF.shs ++ s)[89]? = some [.pos 0, .pos 1, .pos 2, .pos 3, .kw 0] := by kernel_rfl
@[simp] theorem sh90 : (PF.shs ++ s)[90]? = some [.pos 0, .pos 1, .pos 2] := by kernel_rfl
@[simp] theorem sh91 : (PF.shs ++ s)[91]? = some [.pos 0] := by kernel_rfl
@[simp] theorem sh92 : (PF.shs ++ s)[92]? = some [.pos 0] := by kernel_rfl
@[simp] theorem sh93 : (PF.shs ++ s)[93]? = some [.pos 0, .pos 1] := by kernel_rfl
@[simp] theorem sh94 : (PF.shs ++ s)[94]? = some [.pos 0, .dfl (.int 0)] := by kernel_rfl
@[simp] theorem sh95 : (PF.shs ++ s)[95]? = some [.pos 0] := by kernel_rfl
@[simp] theorem sh96 : (PF.shs ++ s)[96]? = some [.pos 0, .pos 1] := by kernel_rfl
@[simp] theorem sh97 : (PF.shs ++ s)[97]? = some [.pos 0, .pos 1] := by kernel_rfl
@[simp] theorem sh98 : (PF.shs ++ s)[98]? = some [.pos 0, .pos 1] := by kernel_rfl
@[simp] theorem sh99 : (PF.shs ++ s)[99]? = some [.pos 0] := by kernel_rfl
@[simp] theorem sh100 : (PF.shs ++ s)[100]? = some [.pos 0, .pos 1, .pos 2] := by kernel_rfl
@[simp] theorem sh101 : (PF.shs ++ s)[101]? = some [.pos 0, .pos 1, .pos 2, .pos 3] := by kernel_rfl
@[simp] theorem sh102 : (PF.shs ++ s)[102]? = some [.pos 0, .pos 1, .pos 2] := by kernel_rfl
@[simp] theorem sh103 : (PF.shs ++ s)[103]? = some [.pos 0, .pos 1, .pos 2, .pos 3] := by kernel_rfl
@[simp] theorem sh104 : (PF.shs ++ s)[104]? = some [.pos 0, .pos 1, .pos 2] := by kernel_rfl
@[simp] theorem sh105 : (PF.shs ++ s)[105]? = some [.pos 0, .pos 1] := by kernel_rfl
@[simp] theorem sh106 : (PF.shs ++ s)[106]? = some [.pos 0, .pos 1] := by kernel_rfl
@[simp] theorem sh107 : (PF.shs ++ s)[107]? = some [.pos 0, .pos 1] := by kernel_rfl
@[simp] theorem sh108 : (PF.shs ++ s)[108]? = some [.pos 0, .pos 1, .pos 2] := by kernel_rfl
@[simp] theorem sh109 : (PF.shs ++ s)[109]? = some [.pos 0, .pos 1] := by kernel_rfl
@[simp] theorem gl0 : (PF.glo ++ g)[0]? = some (.int 3) := by kernel_rfl
@[simp] theorem gl1 : (PF.glo ++ g)[1]? = some (.int 9) := by kernel_rfl
@[simp] theorem gl2 : (PF.glo ++ g)[2]? = some (.tup [.str "first", .str "both", .str "alone", .str "except", .str "later"]) := by kernel_rfl
@[simp] theorem gl3 : (PF.glo ++ g)[3]? = some (.tup [.str "keep", .str "drop", .str "ask", .str "melt"]) := by kernel_rfl
@[simp] theorem gl4 : (PF.glo ++ g)[4]? = some (.tup [.str "edit", .str "reset", .str "hold", .str "take"]) := by kernel_rfl
@[simp] theorem gl5 : (PF.glo ++ g)[5]? = some (.int 400) := by kernel_rfl
@[simp] theorem gl6 : (PF.glo ++ g)[6]? = some (.int 400) := by kernel_rfl
@[simp] theorem gl7 : (PF.glo ++ g)[7]? = some (.int 400) := by kernel_rfl
@[simp] theorem gl8 : (PF.glo ++ g)[8]? = some (.int 1500) := by kernel_rfl
@[simp] theorem gl9 : (PF.glo ++ g)[9]? = some (.tup [.str "a", .str "b", .str "c"]) := by kernel_rfl
@[simp] theorem cs0 : PF.cs[0]? = some PF.cl0 := by kernel_rfl
@[simp] theorem cs1 : PF.cs[1]? = some PF.cl1 := by kernel_rfl
@[simp] theorem cs2 : PF.cs[2]? = some PF.cl2 := by kernel_rfl
@[simp] theorem cs3 : PF.cs[3]? = some PF.cl3 := by kernel_rfl
@[simp] theorem cs4 : PF.cs[4]? = some PF.cl4 := by kernel_rfl
@[simp] theorem cs5 : PF.cs[5]? = some PF.cl5 := by kernel_rfl
@[simp] theorem cs6 : PF.cs[6]? = some PF.cl6 := by kernel_rfl
@[simp] theorem cs7 : PF.cs[7]? = some PF.cl7 := by kernel_rfl
@[simp] theorem cs8 : PF.cs[8]? = some PF.cl8 := by kernel_rfl
@[simp] theorem cs9 : PF.cs[9]? = some PF.cl9 := by kernel_rfl
@[simp] theorem cs10 : PF.cs[10]? = some PF.cl10 := by kernel_rfl
@[simp] theorem cs11 : PF.cs[11]? = some PF.cl11 := by kernel_rfl
@[simp] theorem cs12 : PF.cs[12]? = some PF.cl12 := by kernel_rfl
@[simp] theorem cs13 : PF.cs[13]? = some PF.cl13 := by kernel_rfl
@[simp] theorem cs14 : PF.cs[14]? = some PF.cl14 := by kernel_rfl
@[simp] theorem cs15 : PF.cs[15]? = some PF.cl15 := by kernel_rfl
@[simp] theorem cs16 : PF.cs[16]? = some PF.cl16 := by kernel_rfl
@[simp] theorem cs17 : PF.cs[17]? = some PF.cl17 := by kernel_rfl
@[simp] theorem cs18 : PF.cs[18]? = some PF.cl18 := by kernel_rfl
@[simp] theorem cs19 : PF.cs[19]? = some PF.cl19 := by kernel_rfl
@[simp] theorem cs20 : PF.cs[20]? = some PF.cl20 := by kernel_rfl
@[simp] theorem cs21 : PF.cs[21]? = some PF.cl21 := by kernel_rfl
@[simp] theorem cs22 : PF.cs[22]? = some PF.cl22 := by kernel_rfl
@[simp] theorem cs23 : PF.cs[23]? = some PF.cl23 := by kernel_rfl
@[simp] theorem cs24 : PF.cs[24]? = some PF.cl24 := by kernel_rfl
@[simp] theorem cs25 : PF.cs[25]? = some PF.cl25 := by kernel_rfl
@[simp] theorem cs26 : PF.cs[26]? = some PF.cl26 := by kernel_rfl
@[simp] theorem cs27 : PF.cs[27]? = some PF.cl27 := by kernel_rfl
@[simp] theorem cs28 : PF.cs[28]? = some PF.cl28 := by kernel_rfl
@[simp] theorem cs29 : PF.cs[29]? = some PF.cl29 := by kernel_rfl
@[simp] theorem cs30 : PF.cs[30]? = some PF.cl30 := by kernel_rfl
@[simp] theorem cf0 : clsOf (Ek g s f ab k) "FillError" = some PF.cl0 := by kernel_rfl
@[simp] theorem cf1 : clsOf (Ek g s f ab k) "BadSource" = some PF.cl1 := by kernel_rfl
@[simp] theorem cf2 : clsOf (Ek g s f ab k) "BadValue" = some PF.cl2 := by kernel_rfl
@[simp] theorem cf3 : clsOf (Ek g s f ab k) "BadScene" = some PF.cl3 := by kernel_rfl
@[simp] theorem cf4 : clsOf (Ek g s f ab k) "BadLadder" = some PF.cl4 := by kernel_rfl
@[simp] theorem cf5 : clsOf (Ek g s f ab k) "BadPlan" = some PF.cl5 := by kernel_rfl
@[simp] theorem cf6 : clsOf (Ek g s f ab k) "BadState" = some PF.cl6 := by kernel_rfl
@[simp] theorem cf7 : clsOf (Ek g s f ab k) "BadField" = some PF.cl7 := by kernel_rfl
@[simp] theorem cf8 : clsOf (Ek g s f ab k) "BadDeed" = some PF.cl8 := by kernel_rfl
@[simp] theorem cf9 : clsOf (Ek g s f ab k) "TooLarge" = some PF.cl9 := by kernel_rfl
@[simp] theorem cf10 : clsOf (Ek g s f ab k) "BadWish" = some PF.cl10 := by kernel_rfl
@[simp] theorem cf11 : clsOf (Ek g s f ab k) "BadForm" = some PF.cl11 := by kernel_rfl
@[simp] theorem cf12 : clsOf (Ek g s f ab k) "NotAsked" = some PF.cl12 := by kernel_rfl
@[simp] theorem cf13 : clsOf (Ek g s f ab k) "Gone" = some PF.cl13 := by kernel_rfl
@[simp] theorem cf14 : clsOf (Ek g s f ab k) "NothingDone" = some PF.cl14 := by kernel_rfl
@[simp] theorem cf15 : clsOf (Ek g s f ab k) "BadText" = some PF.cl15 := by kernel_rfl
@[simp] theorem cf16 : clsOf (Ek g s f ab k) "Paper" = some PF.cl16 := by kernel_rfl
@[simp] theorem cf17 : clsOf (Ek g s f ab k) "Run" = some PF.cl17 := by kernel_rfl
@[simp] theorem cf18 : clsOf (Ek g s f ab k) "Ladder" = some PF.cl18 := by kernel_rfl
@[simp] theorem cf19 : clsOf (Ek g s f ab k) "Plan" = some PF.cl19 := by kernel_rfl
@[simp] theorem cf20 : clsOf (Ek g s f ab k) "Kept" = some PF.cl20 := by kernel_rfl
@[simp] theorem cf21 : clsOf (Ek g s f ab k) "Lost" = some PF.cl21 := by kernel_rfl
@[simp] theorem cf22 : clsOf (Ek g s f ab k) "Same" = some PF.cl22 := by kernel_rfl
@[simp] theorem cf23 : clsOf (Ek g s f ab k) "Parted" = some PF.cl23 := by kernel_rfl
@[simp] theorem cf24 : clsOf (Ek g s f ab k) "Fewest" = some PF.cl24 := by kernel_rfl
@[simp] theorem cf25 : clsOf (Ek g s f ab k) "Steady" = some PF.cl25 := by kernel_rfl
@[simp] theorem cf26 : clsOf (Ek g s f ab k) "Unsteady" = some PF.cl26 := by kernel_rfl
@[simp] theorem cf27 : clsOf (Ek g s f ab k) "Enough" = some PF.cl27 := by kernel_rfl
@[simp] theorem cf28 : clsOf (Ek g s f ab k) "Desk" = some PF.cl28 := by kernel_rfl
@[simp] theorem cf29 : clsOf (Ek g s f ab k) "Form" = some PF.cl29 := by kernel_rfl
@[simp] theorem cf30 : clsOf (Ek g s f ab k) "Cell" = some PF.cl30 := by kernel_rfl
end
end EV

set_option Elab.async false
set_option linter.all false
set_option maxRecDepth 100000
set_option maxHeartbeats 4000000
/-! EV Q3: classes, and comprehensions over things of a kind, run by simp. -/
namespace EV
open PySem
section
variable {E : Ev} {t : Bool} {L : Lc} {h : Hs} {a b c e o i lo hi : C} {es ks ifs ifs1 : Cs} {r : Ss} {st : S}
@[simp] theorem ex_bad : ex E .bad t L h = .bad := by simp only [ex]
@[simp] theorem ex_srt : ex E (.srt e) t L h = tst t ((ex E e false L h).bind fun x h => srtS x h) := by simp only [ex]
@[simp] theorem ex_att {f : Str} : ex E (.att o f) t L h = tst t ((ex E o false L h).bind fun x h => getA E x f h) := by simp only [ex]
@[simp] theorem ex_new {c sh : Nat} : ex E (.new c sh es ks) t L h = tst t ((exs E es L h).bind fun ds h => (exs E ks L h).bind fun zs h => makeP E c sh ds zs h) := by simp only [ex]
@[simp] theorem ex_olen : ex E (.olen o) t L h = tst t ((ex E o false L h).bind fun x h => asLen (spec E x "__len__" [] h)) := by simp only [ex]
@[simp] theorem ex_oin : ex E (.oin a o) t L h = tst t ((ex E a false L h).bind fun x h => (ex E o false L h).bind fun y h => asBl (spec E y "__contains__" [x] h)) := by simp only [ex]
@[simp] theorem ex_isO {c : Nat} : ex E (.isO e c) t L h = tst t ((ex E e false L h).bind fun x h => isOwn E x c h) := by simp only [ex]
def repR (xs : List D) (j : Nat) (h : Hs) : R D := if Nat.ble xs.length lim && Nat.ble j 1000 && Nat.ble (xs.length * j) lim then .ok (.lst (List.replicate j xs).flatten) h else .bad
@[simp] theorem ex_rep {j : Nat} : ex E (.rep es j) t L h = tst t ((exs E es L h).bind fun xs h => repR xs j h) := by
  simp only [ex]
  rfl
/-- a turn of the first clause of two -/
def lcStep2 (E : Ev) (vs vs1 : List Nat) (tg : Tg) (ifs : Cs) (tg1 : Tg) (it1 : It) (ifs1 : Cs) (e : C) (L : Lc) : D → Hs → R (List D) := fun d h => stepF2 (setTg tg d (wipeL vs L)) (fun L h => exA E ifs L h) (fun L h => (strip (exI E it1 L h)).bind fun s1 h => lcLoop s1 (lcStep E vs1 tg1 ifs1 e L) s1.xs h) h
@[simp] theorem ex_lc2 {m : Bool} {vs vs1 : List Nat} {tg tg1 : Tg} {it it1 : It} : ex E (.lc2 m vs vs1 tg it ifs tg1 it1 ifs1 e) t L h = tst t ((exI E it L h).bind fun s h => (lcLoopF s (lcStep2 E vs vs1 tg ifs tg1 it1 ifs1 e L) s.xs h).bind fun ys h => newL m ys h) := by
  simp only [ex]
  rfl
@[simp] theorem exS_fset {f : Str} : exS E (.fset o f e) L h = thenS L (ex E e false L h) fun v h => thenS L (ex E o false L h) fun a h => thenS L (setA E a f v h) fun _ h => .next L h := by simp only [exS]
def raiseS (o : Option Cl) (L : Lc) (h : Hs) : SR := match o with
  | some cl => if cl.exc && cl.init.isNone then .exc cl.nm none L h else .bad
  | none => .bad
@[simp] theorem exS_raise {c : Nat} : exS E (.raise c) L h = raiseS (E.cs[c]?) L h := by
  simp only [exS]
  rfl
@[simp] theorem exS_tryC {b : Ss} {c : Nat} : exS E (.tryC b c e) L h = catchS E c (constC e) (exSs E b L h) := by simp only [exS]
@[simp] theorem catchS_ret {c : Nat} {x : Option D} {d : D} : catchS E c x (.ret d h) = .ret d h := id rfl
@[simp] theorem catchS_next {c : Nat} {x : Option D} : catchS E c x (.next L h) = .next L h := id rfl
/-! ### truths put together -/
@[simp] theorem andR_ok {b c : Bool} : andR (.bl b) h (.ok (.bl c) h) = .ok (.bl (b && c)) h := by cases b <;> rfl
@[simp] theorem orR_ok {b c : Bool} : orR (.bl b) h (.ok (.bl c) h) = .ok (.bl (b || c)) h := by cases b <;> rfl
theorem ifR_ok {b : Bool} {x y : D} : ifR b (R.ok x h) (.ok y h) = .ok (ifR b x y) h := by cases b <;> rfl
/-! ### comprehensions -/
/-- over things of a kind -/
def lcT {α : Type} (s : Src) (step : α → Hs → R (Option D)) : List α → Hs → R (List D)
  | [], h => if chk s h then .ok [] h else .bad
  | d :: r, h => if chk s h then (strip (step d h)).bind fun o h1 => (lcT s step r h1).bind fun ys h2 => .ok (o.toList ++ ys) h2 else .bad
theorem lc_T {α : Type} {f : α → D} {s : Src} {step : D → Hs → R (Option D)} : ∀ (xs : List α) (h : Hs), lcLoop s step (xs.map f) h = lcT s (fun a h => step (f a) h) xs h
  | [], h => rfl
  | d :: r, h => by
    rw [List.map_cons]
    unfold lcLoop lcT
    split
    · congr 1
      funext o h1
      rw [lc_T r h1]
    · rfl
theorem lcT_map {α : Type} {g : α → D} {xs0 : List D} (xs : List α) (h : Hs) : lcT ⟨xs0, []⟩ (fun a h => .ok (some (g a)) h) xs h = .ok (xs.map g) h := by
  induction xs with
  | nil => rfl
  | cons a r ih =>
    unfold lcT
    rw [if_pos (show chk ⟨xs0, []⟩ h = true from rfl)]
    simp only [strip, R.bind, ih]
    rfl
theorem lcT_fm {α : Type} {g : α → Option D} {xs0 : List D} (xs : List α) (h : Hs) : lcT ⟨xs0, []⟩ (fun a h => .ok (g a) h) xs h = .ok (xs.filterMap g) h := by
  induction xs with
  | nil => rfl
  | cons a r ih =>
    unfold lcT
    rw [if_pos (show chk ⟨xs0, []⟩ h = true from rfl)]
    simp only [strip, R.bind, ih]
    cases q : g a <;> simp [q]
@[simp] theorem lcStep_eq {vs : List Nat} {tg : Tg} {d : D} : lcStep E vs tg ifs e L d h = stepC (setTg tg d (wipeL vs L)) (exA E ifs) (ex E e false) h := id rfl
@[simp] theorem stepC_some {L2 : Lc} {f : Lc → Hs → R Bool} {g : Lc → Hs → R D} : stepC (some L2) f g h = (f L2 h).bind fun c h => ifR c ((g L2 h).bind fun y h => .ok (some y) h) (.ok none h) := id rfl
end
/-! ### equality of data -/
mutual
/-- plain data: no place, no instance, no dict -/
def data : D → Bool
  | .non => true
  | .bl _ => true
  | .int _ => true
  | .str x => PyData.strOk x
  | .tup xs => datas xs
  | .lst xs => datas xs
  | _ => false
def datas : List D → Bool
  | [] => true
  | x :: xs => data x && datas xs
end
mutual
def dpt : D → Nat
  | .tup xs => dpts xs + 1
  | .lst xs => dpts xs + 1
  | _ => 0
def dpts : List D → Nat
  | [] => 0
  | x :: xs => max (dpt x) (dpts xs)
end
mutual
/-- == of data -/
def eqD : D → D → Bool
  | .tup xs, .tup ys => eqDs xs ys
  | .lst xs, .lst ys => eqDs xs ys
  | x, y => feq x y
def eqDs : List D → List D → Bool
  | [], [] => true
  | x :: xs, y :: ys => eqD x y && eqDs xs ys
  | _, _ => false
end
mutual
def pdD : D → PyData
  | .bl b => .bool b
  | .int i => .int i
  | .str x => .str x
  | .tup xs => .tuple (pdDs xs)
  | .lst xs => .list (pdDs xs)
  | _ => .none
def pdDs : List D → List PyData
  | [] => []
  | x :: xs => pdD x :: pdDs xs
end
mutual
theorem py_pdD (f : Nat → Option PyData) : ∀ {d : D}, data d = true → pyOf f d = some (pdD d)
  | .non, _ => rfl
  | .int _, _ => rfl
  | .bl _, _ => rfl
  | .str _, _ => rfl
  | .tup xs, h => by
    simp only [data] at h
    simp only [pyOf, pdD, pys_pdDs f h, Option.map_some]
  | .lst xs, h => by
    simp only [data] at h
    simp only [pyOf, pdD, pys_pdDs f h, Option.map_some]
  | .loc _, h => by simp [data] at h
  | .ty _, h => by simp [data] at h
  | .glo _, h => by simp [data] at h
  | .dic _ _, h => by simp [data] at h
  | .obj _ _ _, h => by simp [data] at h
theorem pys_pdDs (f : Nat → Option PyData) : ∀ {ds : List D}, datas ds = true → pysOf f ds = some (pdDs ds)
  | [], _ => rfl
  | d :: ds, h => by
    simp only [datas, Bool.and_eq_true] at h
    simp only [pysOf, pdDs, py_pdD f h.1, pys_pdDs f h.2]
end
mutual
theorem lay_pdD : ∀ {d : D}, data d = true → (pdD d).canLay0 = true
  | .int _, _ => by simp [pdD, PyData.canLay0]
  | .tup xs, h => by simp only [data] at h; simp only [pdD, PyData.canLay0]; exact lay_pdDs h
  | .lst xs, h => by simp only [data] at h; simp only [pdD, PyData.canLay0]; exact lay_pdDs h
  | .non, _ => by simp [pdD, PyData.canLay0]
  | .bl _, _ => by simp [pdD, PyData.canLay0]
  | .str _, h => by simp only [data] at h; simp [pdD, PyData.canLay0, h]
  | .loc _, h => by simp [data] at h
  | .ty _, h => by simp [data] at h
  | .glo _, h => by simp [data] at h
  | .dic _ _, h => by simp [data] at h
  | .obj _ _ _, h => by simp [data] at h
theorem lay_pdDs : ∀ {ds : List D}, datas ds = true → PyData.canLayAll0 (pdDs ds) = true
  | [], _ => by simp [pdDs, PyData.canLayAll0]
  | d :: ds, h => by
    simp only [datas, Bool.and_eq_true] at h
    simp only [pdDs, PyData.canLayAll0, lay_pdD h.1, lay_pdDs h.2, Bool.and_self]
end
mutual
theorem dep_pdD : ∀ {d : D}, (pdD d).depth = dpt d
  | .int _ => by simp [pdD, PyData.depth, dpt]
  | .tup xs => by simp only [pdD, PyData.depth, dpt, dep_pdDs]
  | .lst xs => by simp only [pdD, PyData.depth, dpt, dep_pdDs]
  | .non => by simp [pdD, PyData.depth, dpt]
  | .bl _ => by simp [pdD, PyData.depth, dpt]
  | .str _ => by simp [pdD, PyData.depth, dpt]
  | .loc _ => by simp [pdD, PyData.depth, dpt]
  | .ty _ => by simp [pdD, PyData.depth, dpt]
  | .glo _ => by simp [pdD, PyData.depth, dpt]
  | .dic _ _ => by simp [pdD, PyData.depth, dpt]
  | .obj _ _ _ => by simp [pdD, PyData.depth, dpt]
theorem dep_pdDs : ∀ {ds : List D}, PyData.depthAll (pdDs ds) = dpts ds
  | [] => by simp [pdDs, PyData.depthAll, dpts]
  | d :: ds => by simp only [pdDs, PyData.depthAll, dpts, dep_pdD, dep_pdDs]
end
mutual
theorem eqv_pdD : ∀ {d e : D}, data d = true → data e = true → PyData.eqv (pdD d) (pdD e) = eqD d e
  | .non, e, _, h => by
    cases e <;> first | (simp [data] at h; done) | simp [pdD, PyData.eqv, eqD, feq]
  | .int i, e, _, h => by
    cases e <;> first | (simp [data] at h; done) | simp [pdD, PyData.eqv, eqD, feq] <;> rfl
  | .bl i, e, _, h => by
    cases e <;> first | (simp [data] at h; done) | simp [pdD, PyData.eqv, eqD, feq] <;> rfl
  | .str i, e, _, h => by
    cases e <;> first | (simp [data] at h; done) | simp [pdD, PyData.eqv, eqD, feq] <;> rfl
  | .tup xs, e, h, h2 => by
    cases e <;> first | (simp [data] at h2; done) | skip
    case tup ys =>
      simp only [data] at h h2
      simp only [pdD, PyData.eqv, eqD]
      exact eqv_pdDs h h2
    all_goals simp [pdD, PyData.eqv, eqD, feq]
  | .lst xs, e, h, h2 => by
    cases e <;> first | (simp [data] at h2; done) | skip
    case lst ys =>
      simp only [data] at h h2
      simp only [pdD, PyData.eqv, eqD]
      exact eqv_pdDs h h2
    all_goals simp [pdD, PyData.eqv, eqD, feq]
  | .loc _, _, h, _ => by simp [data] at h
  | .ty _, _, h, _ => by simp [data] at h
  | .glo _, _, h, _ => by simp [data] at h
  | .dic _ _, _, h, _ => by simp [data] at h
  | .obj _ _ _, _, h, _ => by simp [data] at h
theorem eqv_pdDs : ∀ {ds es : List D}, datas ds = true → datas es = true → PyData.eqvAll (pdDs ds) (pdDs es) = eqDs ds es
  | [], es, _, h => by cases es <;> simp [pdDs, PyData.eqvAll, eqDs]
  | d :: ds, es, h, h2 => by
    cases es with
    | nil => simp [pdDs, PyData.eqvAll, eqDs]
    | cons e es =>
      simp only [datas, Bool.and_eq_true] at h h2
      simp only [pdDs, PyData.eqvAll, eqDs, eqv_pdD h.1 h2.1, eqv_pdDs h.2 h2.2]
end
theorem shaped_pdD {d : D} (hd : data d = true) (h : dpt d ≤ 64) : SeqAt.shaped (pdD d) = true := by
  unfold SeqAt.shaped
  rw [lay_pdD hd, dep_pdD]
  simpa using h
theorem eqD_flat {a b : D} (ha : flat a = true) (hb : flat b = true) : eqD a b = feq a b := by
  cases a <;> first | (simp [flat] at ha; done) | cases b <;> first | (simp [flat] at hb; done) | simp [eqD]
theorem opEq_data {h : Hs} {a b : D} (ha : data a = true) (hb : data b = true) (da : dpt a ≤ 64) (db : dpt b ≤ 64) : opEq h a b = some (eqD a b) := by
  unfold opEq
  split
  · rename_i hf
    rw [Bool.and_eq_true] at hf
    rw [eqD_flat hf.1 hf.2]
  · unfold toP
    rw [py_pdD _ ha, py_pdD _ hb]
    simp only [shaped_pdD ha da, shaped_pdD hb db, Bool.and_self, if_true, eqv_pdD ha hb]
mutual
theorem eqD_refl : ∀ {d : D}, data d = true → eqD d d = true
  | .non, _ => by simp [eqD, feq]
  | .bl b, _ => by simp [eqD, feq]
  | .int i, _ => by simp [eqD, feq]
  | .str x, _ => by simp [eqD, feq]
  | .tup xs, h => by simp only [data] at h; simp only [eqD]; exact eqDs_refl h
  | .lst xs, h => by simp only [data] at h; simp only [eqD]; exact eqDs_refl h
  | .loc _, h => by simp [data] at h
  | .ty _, h => by simp [data] at h
  | .glo _, h => by simp [data] at h
  | .dic _ _, h => by simp [data] at h
  | .obj _ _ _, h => by simp [data] at h
theorem eqDs_refl : ∀ {ds : List D}, datas ds = true → eqDs ds ds = true
  | [], _ => by simp [eqDs]
  | d :: ds, h => by
    simp only [datas, Bool.and_eq_true] at h
    simp [eqDs, eqD_refl h.1, eqDs_refl h.2]
end
mutual
theorem data_undr {n : Nat} : ∀ {d : D}, data d = true → D.undr n d = true
  | .non, _ => rfl
  | .bl b, _ => rfl
  | .int i, _ => rfl
  | .str x, _ => rfl
  | .tup xs, h => by simp only [data] at h; simp [datas_undr h]
  | .lst xs, h => by simp only [data] at h; simp [datas_undr h]
  | .loc _, h => by simp [data] at h
  | .ty _, h => by simp [data] at h
  | .glo _, h => by simp [data] at h
  | .dic _ _, h => by simp [data] at h
  | .obj _ _ _, h => by simp [data] at h
theorem datas_undr {n : Nat} : ∀ {ds : List D}, datas ds = true → D.undrs n ds = true
  | [], _ => rfl
  | d :: ds, h => by
    simp only [datas, Bool.and_eq_true] at h
    simp [data_undr h.1, datas_undr h.2]
end
/-! ### membership of flat data -/
theorem opIn_flat {h : Hs} {a d : D} {xs : List D} (e : items h d = some xs) (ha : flat a = true) (hx : xs.all flat = true) : opIn h a d = some (xs.any fun x => feq x a) := by
  unfold opIn
  rw [e]
  simp only [ha, hx, Bool.and_self, if_true]
theorem any_pdDs {a : D} (ha : data a = true) : ∀ {xs : List D}, datas xs = true → ((pdDs xs).any fun q => PyData.eqv q (pdD a)) = xs.any fun x => eqD x a
  | [], _ => rfl
  | x :: xs, h => by
    simp only [datas, Bool.and_eq_true] at h
    simp only [pdDs, List.any_cons, eqv_pdD h.1 ha, any_pdDs ha h.2]
theorem any_congr' {α : Type} {p q : α → Bool} : ∀ {xs : List α}, (∀ x ∈ xs, p x = q x) → xs.any p = xs.any q
  | [], _ => rfl
  | x :: xs, h => by rw [List.any_cons, List.any_cons, h x (List.mem_cons_self ..), any_congr' fun y hy => h y (List.mem_cons_of_mem _ hy)]
theorem all_congr' {α : Type} {p q : α → Bool} : ∀ {xs : List α}, (∀ x ∈ xs, p x = q x) → xs.all p = xs.all q
  | [], _ => rfl
  | x :: xs, h => by rw [List.all_cons, List.all_cons, h x (List.mem_cons_self ..), all_congr' fun y hy => h y (List.mem_cons_of_mem _ hy)]
theorem opIn_lstD {h : Hs} {a : D} {xs : List D} (ha : data a = true) (hx : datas xs = true) (da : dpt a ≤ 64) (dx : dpts xs ≤ 63) : opIn h a (.lst xs) = some (xs.any fun x => eqD x a) := by
  unfold opIn
  rw [items_lst]
  dsimp only
  split
  · rename_i hf
    rw [Bool.and_eq_true] at hf
    congr 1
    exact any_congr' fun x hx => (eqD_flat (List.all_eq_true.mp hf.2 x hx) hf.1).symm
  · have e1 : toP h a = some (pdD a) := py_pdD _ ha
    have e2 : toP h (.lst xs) = some (.list (pdDs xs)) := by simp only [toP, pyOf, pys_pdDs _ hx, Option.map_some]
    have s2 : SeqAt.shaped (.list (pdDs xs)) = true := shaped_pdD (d := .lst xs) (by simpa only [data] using hx) (by simp only [dpt]; omega)
    simp only [e1, e2, shaped_pdD ha da, s2, Bool.and_self, if_true, any_pdDs ha hx]
theorem datas_map {α : Type} {f : α → D} : ∀ {xs : List α}, (∀ x ∈ xs, data (f x) = true) → datas (xs.map f) = true
  | [], _ => rfl
  | x :: xs, h => by simp only [List.map_cons, datas, h x (List.mem_cons_self ..), datas_map fun y hy => h y (List.mem_cons_of_mem _ hy), Bool.and_self]
theorem dpts_map {α : Type} {f : α → D} {n : Nat} : ∀ {xs : List α}, (∀ x ∈ xs, dpt (f x) ≤ n) → dpts (xs.map f) ≤ n
  | [], _ => by simp [dpts]
  | x :: xs, h => by
    have h1 := h x (List.mem_cons_self ..)
    have h2 := dpts_map (xs := xs) fun y hy => h y (List.mem_cons_of_mem _ hy)
    simp only [List.map_cons, dpts]
    omega
end EV

set_option Elab.async false
set_option linter.all false
set_option maxRecDepth 100000
set_option maxHeartbeats 4000000
/-! ladders: forms. -/
namespace EV
open PySem
def isVal : D → Bool
  | .int _ => true
  | _ => false
def isNum (n : Int) : D → Bool
  | .int i => decide (0 ≤ i) && decide (i < n)
  | _ => false
def isJ (x : Str) : Bool := x == ("first" : Str) || (x == ("both" : Str) || (x == ("alone" : Str) || (x == ("except" : Str) || x == ("later" : Str))))
/-- is_form, with so much room below -/
def isF : Nat → D → Bool
  | 0, _ => false
  | n + 1, .tup (.str x :: xs) => if x == ("source" : Str) then (match xs with
      | [y] => isNum 3 y
      | _ => false) else if x == ("fixed" : Str) then (match xs with
      | [y] => isVal y
      | _ => false) else if isJ x then (match xs with
      | [a, b] => isF n a && isF n b
      | _ => false) else false
  | _, _ => false
section
variable {g : List D} {s : List (List Sl)} {f : List Fn} {ab : List Nat} {k : Nat} {h : Hs}
theorem r_isvD {d : D} (hd : data d = true) : run (PF.mk g s f ab) (k + 1) 0 [d] [] = .ok (.bl (isVal d)) [] := by
  rw [rn0]
  cases d <;> first | (simp [data] at hd; done) | simp [PF.b0, callB, tyOk, tyB, isVal, lstI]
@[simp] theorem c_isvD {d : D} (hd : data d = true) : callP (Ek g s f ab (k + 1)) 0 [d] h = .ok (.bl (isVal d)) h := callE (r_isvD hd) (by simp [data_undr hd])
theorem r_numD {d : D} {n : Int} (hd : data d = true) : run (PF.mk g s f ab) (k + 2) 1 [d, .int n] [] = .ok (.bl (isNum n d)) [] := by
  rw [rn1]
  cases d <;> first | (simp [data] at hd; done) | simp [PF.b1, arr, arr1, isVal, isNum, hd]
@[simp] theorem c_numD {d : D} {n : Int} (hd : data d = true) : callP (Ek g s f ab (k + 2)) 1 [d, .int n] h = .ok (.bl (isNum n d)) h := callE (r_numD hd) (by simp [data_undr hd])
theorem ixN0 {n : Nat} : ixN (n + 1) 0 = some 0 := by unfold ixN; rw [if_pos (by decide), if_pos (by omega)]; rfl
@[simp] theorem sub_t0 {x : D} {xs : List D} : opSub (.tup (x :: xs)) (.int 0) h = .ok x h := by simp [opSub, atI, ixN0]
@[simp] theorem sub_t1 {x y : D} {xs : List D} : opSub (.tup (x :: y :: xs)) (.int 1) h = .ok y h := by
  have : ixN (xs.length + 1 + 1) 1 = some 1 := by unfold ixN; rw [if_pos (by decide), if_pos (by omega)]; rfl
  simp [opSub, atI, this]
@[simp] theorem sub_t2 {x y z : D} {xs : List D} : opSub (.tup (x :: y :: z :: xs)) (.int 2) h = .ok z h := by
  have : ixN (xs.length + 1 + 1 + 1) 2 = some 2 := by unfold ixN; rw [if_pos (by decide), if_pos (by omega)]; rfl
  simp [opSub, atI, this]
@[simp] theorem in_joins {x : Str} : opIn h (.str x) (.tup [.str "first", .str "both", .str "alone", .str "except", .str "later"]) = some (isJ x) := by
  rw [opIn_flat rfl rfl rfl]
  simp [isJ, feq, BEq.comm]
@[simp] theorem isi_strD {d : D} (hd : data d = true) : callB .isi [d, .ty "str"] h = .ok (.bl (match d with | .str _ => true | _ => false)) h := by
  cases d <;> first | (simp [data] at hd; done) | rfl
@[simp] theorem isi_tupD {d : D} (hd : data d = true) : callB .isi [d, .ty "tuple"] h = .ok (.bl (match d with | .tup _ => true | _ => false)) h := by
  cases d <;> first | (simp [data] at hd; done) | rfl
theorem r_form : ∀ (n : Nat) {t : D} (k : Nat), n ≤ 10 → data t = true → run (PF.mk g s f ab) (k + n + 3) 16 [t, .int (10 - n)] [] = .ok (.bl (isF n t)) []
  | 0, t, k, hn, ht => by
    rw [show k + 0 + 3 = (k + 2) + 1 from rfl, rn16]
    cases t <;> first | (simp [data] at ht; done) | simp [PF.b16, isF, ht]
  | n + 1, t, k, hn, ht => by
    rw [show k + (n + 1) + 3 = (k + n + 3) + 1 from by omega, rn16]
    generalize hdd : (10 - ((n + 1 : Nat) : Int)) = dd
    have hd : ¬ 9 < dd := by omega
    have h1 : dd + 1 = 10 - (n : Int) := by omega
    have ih : ∀ (a : D) (h : Hs), data a = true → callP (Ek g s f ab (k + n + 3)) 16 [a, .int (dd + 1)] h = .ok (.bl (isF n a)) h := fun a h ha => by
      rw [h1]
      exact callE (r_form n k (by omega) ha) (by simp [data_undr ha])
    cases t with
    | tup xs =>
      cases xs with
      | nil => simp [PF.b16, isF, ht, hd]
      | cons x xs =>
        have hx : data x = true := by simp only [data, datas, Bool.and_eq_true] at ht; exact ht.1
        have hxs : datas xs = true := by simp only [data, datas, Bool.and_eq_true] at ht; exact ht.2
        cases x with
        | str w =>
          rcases xs with _ | ⟨y, _ | ⟨z, _ | ⟨u, r⟩⟩⟩
          · cases w1 : w == ("source" : Str) <;> cases w2 : w == ("fixed" : Str) <;> cases w3 : isJ w <;> simp [PF.b16, ht, hd, hx, w1, w2, w3, isF, arr, arr1]
          · simp only [datas, Bool.and_eq_true, Bool.and_true] at hxs
            cases w1 : w == ("source" : Str) <;> cases w2 : w == ("fixed" : Str) <;> cases w3 : isJ w <;> simp [PF.b16, ht, hd, hx, w1, w2, w3, isF, arr, arr1, hxs]
          · simp only [datas, Bool.and_eq_true, Bool.and_true] at hxs
            cases w1 : w == ("source" : Str) <;> cases w2 : w == ("fixed" : Str) <;> cases w3 : isJ w <;> simp [PF.b16, ht, hd, hx, w1, w2, w3, isF, arr, arr1, hxs.1, hxs.2, ih]
          · have l2 : ¬ ((r.length : Int) + 1 + 1 + 1 + 1 = 2) := by omega
            have l3 : ¬ ((r.length : Int) + 1 + 1 + 1 + 1 = 3) := by omega
            cases w1 : w == ("source" : Str) <;> cases w2 : w == ("fixed" : Str) <;> cases w3 : isJ w <;> simp [PF.b16, ht, hd, hx, w1, w2, w3, isF, arr, arr1, l2, l3]
        | _ => first | (simp [data] at hx; done) | simp [PF.b16, isF, ht, hd, hx]
    | _ => first | (simp [data] at ht; done) | simp [PF.b16, isF, ht, hd]
end
end EV

set_option Elab.async false
set_option linter.all false
set_option maxRecDepth 100000
set_option maxHeartbeats 4000000
/-! ladders: forms as things of their own; leaves, widths, known values. -/
namespace EV
open PySem
inductive Fm where
  | src (i : Int)
  | fix (v : Int)
  | join (w : Str) (a b : Fm)
  deriving DecidableEq
namespace Fm
def d : Fm → D
  | .src i => .tup [.str "source", .int i]
  | .fix v => .tup [.str "fixed", .int v]
  | .join w a b => .tup [.str w, a.d, b.d]
def ok : Fm → Bool
  | .src i => decide (0 ≤ i) && decide (i < 3)
  | .fix _ => true
  | .join w a b => isJ w && a.ok && b.ok
def dep : Fm → Nat
  | .join _ a b => max a.dep b.dep + 1
  | _ => 0
def lv : Fm → List Fm
  | .join _ a b => a.lv ++ b.lv
  | x => [x]
def isLf : Fm → Bool
  | .join _ _ _ => false
  | _ => true
theorem lv_leaf : ∀ (m x : Fm), x ∈ m.lv → x.isLf = true
  | .src i, x, h => by simp [lv] at h; subst h; rfl
  | .fix i, x, h => by simp [lv] at h; subst h; rfl
  | .join w a b, x, h => by
    simp only [lv, List.mem_append] at h
    rcases h with h | h
    · exact lv_leaf a x h
    · exact lv_leaf b x h
theorem lv_len : ∀ m : Fm, m.lv.length ≤ 2 ^ m.dep
  | .src i => by simp [lv, dep]
  | .fix i => by simp [lv, dep]
  | .join w a b => by
    have h1 := lv_len a
    have h2 := lv_len b
    have p1 : 2 ^ a.dep ≤ 2 ^ max a.dep b.dep := Nat.pow_le_pow_right (by decide) (Nat.le_max_left ..)
    have p2 : 2 ^ b.dep ≤ 2 ^ max a.dep b.dep := Nat.pow_le_pow_right (by decide) (Nat.le_max_right ..)
    simp only [lv, dep, List.length_append, Nat.pow_succ]
    omega
theorem dep_lv : ∀ m : Fm, m.dep < m.lv.length
  | .src i => by simp [lv, dep]
  | .fix i => by simp [lv, dep]
  | .join w a b => by
    have h1 := dep_lv a
    have h2 := dep_lv b
    simp only [lv, dep, List.length_append]
    omega
theorem isJ_ok {w : Str} (h : isJ w = true) : PyData.strOk w = true ∧ (w == ("source" : Str)) = false ∧ (w == ("fixed" : Str)) = false := by
  simp only [isJ, Bool.or_eq_true, beq_iff_eq] at h
  rcases h with h | h | h | h | h <;> subst h <;> decide +kernel
theorem data_d : ∀ {m : Fm}, m.ok = true → data m.d = true
  | .src i, _ => by
    have : PyData.strOk ("source" : Str) = true := by decide +kernel
    simp [d, data, datas, this]
  | .fix i, _ => by
    have : PyData.strOk ("fixed" : Str) = true := by decide +kernel
    simp [d, data, datas, this]
  | .join w a b, h => by
    simp only [ok, Bool.and_eq_true] at h
    simp only [d, data, datas, (isJ_ok h.1.1).1, data_d h.1.2, data_d h.2, Bool.and_self]
theorem dpt_d : ∀ m : Fm, dpt m.d = m.dep + 1
  | .src i => by simp [d, dpt, dpts, dep]
  | .fix i => by simp [d, dpt, dpts, dep]
  | .join w a b => by
    simp only [d, dpt, dpts, dep, dpt_d a, dpt_d b]
    omega
end Fm
theorem isF_fm : ∀ {n : Nat} {t : D}, isF n t = true → ∃ m : Fm, t = m.d ∧ m.ok = true ∧ m.dep < n
  | 0, t, h => by simp [isF] at h
  | n + 1, t, h => by
    unfold isF at h
    split at h
    · cases ‹_ + 1 = 0›
    · rename_i n' w xs e1
      cases e1
      split at h
      · rename_i hw
        rw [beq_iff_eq] at hw
        subst hw
        split at h
        · rename_i y
          unfold isNum at h
          split at h
          · rename_i i
            exact ⟨.src i, rfl, h, by simp [Fm.dep]⟩
          · cases h
        · cases h
      · split at h
        · rename_i hw
          rw [beq_iff_eq] at hw
          subst hw
          split at h
          · rename_i y
            unfold isVal at h
            split at h
            · rename_i i
              exact ⟨.fix i, rfl, rfl, by simp [Fm.dep]⟩
            · cases h
          · cases h
        · split at h
          · rename_i hj
            split at h
            · rename_i a b
              rw [Bool.and_eq_true] at h
              obtain ⟨m1, e1, o1, d1⟩ := isF_fm h.1
              obtain ⟨m2, e2, o2, d2⟩ := isF_fm h.2
              refine ⟨.join w m1 m2, by rw [Fm.d, e1, e2], by simp [Fm.ok, hj, o1, o2], ?_⟩
              simp only [Fm.dep]
              omega
            · cases h
          · cases h
    · cases h
theorem Fm.d_inj : ∀ {a b : Fm}, a.d = b.d → a = b
  | .src i, b, e => by
    cases b with
    | src j => simp [Fm.d] at e; rw [e]
    | fix j => exact absurd (D.str.inj (List.cons.inj (D.tup.inj e)).1) (by decide +kernel)
    | join w c d => simp [Fm.d] at e
  | .fix i, b, e => by
    cases b with
    | src j => exact absurd (D.str.inj (List.cons.inj (D.tup.inj e)).1) (by decide +kernel)
    | fix j => simp [Fm.d] at e; rw [e]
    | join w c d => simp [Fm.d] at e
  | .join w c d, b, e => by
    cases b with
    | src j => simp [Fm.d] at e
    | fix j => simp [Fm.d] at e
    | join w' c' d' =>
      simp only [Fm.d, D.tup.injEq, List.cons.injEq, D.str.injEq, and_true] at e
      rw [e.1, Fm.d_inj e.2.1, Fm.d_inj e.2.2]
theorem fm_isF : ∀ {n : Nat} {m : Fm}, m.ok = true → m.dep < n → isF n m.d = true
  | 0, m, _, h => by omega
  | n + 1, .src i, h, _ => by
    simp only [Fm.ok] at h
    simpa [Fm.d, isF, isNum] using h
  | n + 1, .fix i, h, _ => by
    have : (("fixed" : Str) == ("source" : Str)) = false := by decide +kernel
    simp [Fm.d, isF, isVal, this]
  | n + 1, .join w a b, h, hd => by
    simp only [Fm.ok, Bool.and_eq_true] at h
    simp only [Fm.dep] at hd
    obtain ⟨_, h2, h3⟩ := Fm.isJ_ok h.1.1
    simp [Fm.d, isF, h2, h3, h.1.1, fm_isF h.1.2 (show a.dep < n by omega), fm_isF h.2 (show b.dep < n by omega)]
/-! ### what the program makes of forms -/
section
variable {g : List D} {s : List (List Sl)} {f : List Fn} {ab : List Nat} {k : Nat} {h : Hs}
@[simp] theorem undr_fm {n : Nat} {m : Fm} (h : m.ok = true) : D.undr n m.d = true := data_undr (Fm.data_d h)
theorem isJ_src : isJ "source" = false := by decide +kernel
theorem isJ_fix : isJ "fixed" = false := by decide +kernel
theorem undrs_fms {n : Nat} {ms : List Fm} (h : ∀ m ∈ ms, m.ok = true) : D.undrs n (ms.map Fm.d) = true := undrs_map fun m hm => undr_fm (h m hm)
theorem lv_ok : ∀ {m : Fm}, m.ok = true → ∀ x ∈ m.lv, x.ok = true
  | .src i, h, x, hx => by simp [Fm.lv] at hx; subst hx; exact h
  | .fix i, h, x, hx => by simp [Fm.lv] at hx; subst hx; exact h
  | .join w a b, h, x, hx => by
    simp only [Fm.ok, Bool.and_eq_true] at h
    simp only [Fm.lv, List.mem_append] at hx
    rcases hx with hx | hx
    · exact lv_ok h.1.2 x hx
    · exact lv_ok h.2 x hx
theorem r_lv : ∀ (m : Fm) (k : Nat), m.ok = true → m.dep ≤ 14 → run (PF.mk g s f ab) (k + m.dep + 1) 15 [m.d] [] = .ok (.lst (m.lv.map Fm.d)) []
  | .src i, k, ho, hd => by
    rw [rn15]
    simp [PF.b15, Fm.d, Fm.lv, isJ_src]
  | .fix i, k, ho, hd => by
    rw [rn15]
    simp [PF.b15, Fm.d, Fm.lv, isJ_fix]
  | .join w a b, k, ho, hd => by
    have ho' := ho
    simp only [Fm.ok, Bool.and_eq_true] at ho
    simp only [Fm.dep] at hd
    have l := Fm.lv_len (.join w a b)
    have l2 : (Fm.join w a b).lv.length ≤ 200000 := Nat.le_trans l (Nat.le_trans (Nat.pow_le_pow_right (by decide) (show (Fm.join w a b).dep ≤ 14 by simpa [Fm.dep] using hd)) (by decide))
    have e1 : ∀ h, callP (Ek g s f ab (k + (max a.dep b.dep + 1))) 15 [a.d] h = .ok (.lst (a.lv.map Fm.d)) h := fun h => by
      rw [show k + (max a.dep b.dep + 1) = (k + (max a.dep b.dep - a.dep)) + a.dep + 1 by omega]
      exact callE (r_lv a _ ho.1.2 (by omega)) (by simp [undr_fm ho.1.2])
    have e2 : ∀ h, callP (Ek g s f ab (k + (max a.dep b.dep + 1))) 15 [b.d] h = .ok (.lst (b.lv.map Fm.d)) h := fun h => by
      rw [show k + (max a.dep b.dep + 1) = (k + (max a.dep b.dep - b.dep)) + b.dep + 1 by omega]
      exact callE (r_lv b _ ho.2 (by omega)) (by simp [undr_fm ho.2])
    rw [rn15]
    simp only [Fm.lv, List.length_append] at l2
    have u1 := undrs_fms (n := 0) (lv_ok ho.1.2)
    have u2 := undrs_fms (n := 0) (lv_ok ho.2)
    simp [PF.b15, Fm.d, Fm.lv, Fm.dep, ho.1.1, arr, arr1, e1, e2, newL_f, lim_of l2, u1, u2]
end
end EV

set_option Elab.async false
set_option linter.all false
set_option maxRecDepth 100000
set_option maxHeartbeats 4000000
/-! ladders: widths, known values, the class. -/
namespace EV
open PySem
/-- one more than the greatest source -/
def widL (acc : Int) : List Fm → Int
  | [] => acc
  | .src i :: r => widL (if acc > i + 1 then acc else i + 1) r
  | _ :: r => widL acc r
def Fm.width (m : Fm) : Int := widL 1 m.lv
def fixL : List Fm → List Int
  | [] => []
  | .fix v :: r => v :: fixL r
  | _ :: r => fixL r
def knownL (ms : List Fm) : List Int := sortI (dedI (fixL (ms.flatMap Fm.lv)))
def Fm.known (m : Fm) : List Int := knownL [m]
theorem fixL_append : ∀ a b : List Fm, fixL (a ++ b) = fixL a ++ fixL b
  | [], b => rfl
  | .src i :: r, b => by simp [fixL, fixL_append r b]
  | .fix i :: r, b => by simp [fixL, fixL_append r b]
  | .join _ _ _ :: r, b => by simp [fixL, fixL_append r b]
theorem fixL_len : ∀ a : List Fm, (fixL a).length ≤ a.length
  | [] => by simp [fixL]
  | .src i :: r => by have := fixL_len r; simp only [fixL, List.length_cons]; omega
  | .fix i :: r => by have := fixL_len r; simp only [fixL, List.length_cons]; omega
  | .join _ _ _ :: r => by have := fixL_len r; simp only [fixL, List.length_cons]; omega
/-- two clauses -/
theorem lcF_map {α : Type} {s : Src} {step : D → Hs → R (List D)} {h : Hs} {f : α → D} {g : α → List D} (hc : chk s h = true) : ∀ (xs : List α), (∀ a ∈ xs, step (f a) h = .ok (g a) h) → lcLoopF s step (xs.map f) h = .ok (xs.flatMap g) h
  | [], _ => by simp [lcLoopF, hc]
  | a :: r, hs => by
    simp only [List.map_cons, lcLoopF, hc, if_true, hs a (List.mem_cons_self ..), strip, R.bind]
    rw [lcF_map hc r fun e he => hs e (List.mem_cons_of_mem _ he)]
    simp
section
variable {g : List D} {s : List (List Sl)} {f : List Fn} {ab : List Nat} {k : Nat} {h : Hs}
theorem c_lv {m : Fm} {k n : Nat} (ho : m.ok = true) (hd : m.dep ≤ 14) (hk : m.dep < k) : callP (Ek g s f ab k) 15 [m.d] h = .ok (.lst (m.lv.map Fm.d)) h := by
  rw [show k = (k - m.dep - 1) + m.dep + 1 by omega]
  exact callE (r_lv m _ ho hd) (by simp [undr_fm ho])
theorem ne_src_fix : (("source" : Str) == ("fixed" : Str)) = false := by decide +kernel
theorem ne_fix_src : (("fixed" : Str) == ("source" : Str)) = false := by decide +kernel
@[simp] theorem max_int {i j : Int} : callB .max [.int i, .int j] h = .ok (.int (if j > i then j else i)) h := id rfl
theorem for_width {E : Ev} {src : Src} (hc : src.g = []) {d0 : D} : ∀ (ls : List Fm) (acc : Int) (x : Option D), (∀ l ∈ ls, l.isLf = true) → ∃ y, forLoop src (forStep E (.name 2) PF.b19_1) (ls.map Fm.d) [some d0, some (.int acc), x] [] = .next [some d0, some (.int (widL acc ls)), y] []
  | [], acc, x, _ => ⟨x, by simp [forLoop, chk, chkG, hc, widL]⟩
  | .src i :: r, acc, x, hl => by
    obtain ⟨y, e⟩ := for_width hc (E := E) (d0 := d0) r (if acc > i + 1 then acc else i + 1) (some (Fm.src i).d) fun l h => hl l (List.mem_cons_of_mem _ h)
    refine ⟨y, ?_⟩
    simp only [List.map_cons, forLoop, show chk src [] = true by simp [chk, chkG, hc], if_true]
    rw [forStep_eq rfl]
    simp only [widL, ← e]
    simp [PF.b19_1, Fm.d, loopS]
  | .fix i :: r, acc, x, hl => by
    obtain ⟨y, e⟩ := for_width hc (E := E) (d0 := d0) r acc (some (Fm.fix i).d) fun l h => hl l (List.mem_cons_of_mem _ h)
    refine ⟨y, ?_⟩
    simp only [List.map_cons, forLoop, show chk src [] = true by simp [chk, chkG, hc], if_true]
    rw [forStep_eq rfl]
    simp only [widL, ← e]
    simp [PF.b19_1, Fm.d, loopS, ne_fix_src]
  | .join _ _ _ :: r, acc, x, hl => by
    have := hl _ (List.mem_cons_self ..)
    simp [Fm.isLf] at this
theorem r_width {m : Fm} {k : Nat} (ho : m.ok = true) (hd : m.dep ≤ 14) (hk : m.dep < k) : run (PF.mk g s f ab) (k + 1) 19 [m.d] [] = .ok (.int m.width) [] := by
  rw [rn19]
  obtain ⟨y, e⟩ := for_width (E := Ek g s f ab k) (src := ⟨m.lv.map Fm.d, []⟩) rfl (d0 := m.d) m.lv 1 none (Fm.lv_leaf m)
  simp [PF.b19, arr, arr1, c_lv (n := 0) ho hd hk, e, Fm.width]
@[simp] theorem c_width {m : Fm} {k : Nat} (ho : m.ok = true) (hd : m.dep ≤ 14) (hk : m.dep < k) : callP (Ek g s f ab (k + 1)) 19 [m.d] h = .ok (.int m.width) h := callE (r_width ho hd hk) (by simp [undr_fm ho])
theorem fix_step {E : Ev} {vs : List Nat} {L : Lc} (hL : vs = [3]) (h3 : 3 < L.length) : ∀ (ls : List Fm), (∀ l ∈ ls, l.isLf = true) → lcLoop ⟨ls.map Fm.d, []⟩ (lcStep E vs (.name 3) (.cons (.cmp .Eq (.sub (.var 3) (.cint 0)) (.cstr "fixed")) .nil) (.sub (.var 3) (.cint 1)) L) (ls.map Fm.d) h = .ok ((fixL ls).map .int) h := by
  intro ls hl
  subst hL
  rw [lc_fm (f := Fm.d) (g := fun l => match l with | .fix v => some (.int v) | _ => none) rfl]
  · congr 1
    clear hl
    induction ls with
    | nil => rfl
    | cons a r ih => cases a <;> simp [fixL, ih]
  · intro a ha
    have := hl a ha
    cases a with
    | src i => simp [Fm.d, ne_src_fix, h3]
    | fix i => simp [Fm.d, h3]
    | join w a b => simp [Fm.isLf] at this
@[simp] theorem srt_ints {is : List Int} (hl : is.length < 64) : srtS (.lst (is.map .int)) h = .ok (.lst ((sortI (dedI is)).map .int)) h := by
  have : Nat.blt is.length 64 = true := by rw [Nat.blt_eq]; exact hl
  simp [srtS, this]
theorem r_knownF {ms : List Fm} {k : Nat} (ho : ∀ m ∈ ms, m.ok = true) (hd : ∀ m ∈ ms, m.dep ≤ 14) (hk : ∀ m ∈ ms, m.dep < k) (hl : (ms.flatMap Fm.lv).length < 64) : run (PF.mk g s f ab) (k + 1) 20 [.lst (ms.map Fm.d)] [] = .ok (.tup ((knownL ms).map .int)) [] := by
  rw [rn20]
  have e : ∀ L : Lc, L.length = 5 → lcLoopF ⟨ms.map Fm.d, []⟩ (lcStep2 (Ek g s f ab k) [2, 3] [3] (.name 2) .nil (.name 3) (.of (.call 15 13 (.cons (.var 2) .nil) .nil)) (.cons (.cmp .Eq (.sub (.var 3) (.cint 0)) (.cstr "fixed")) .nil) (.sub (.var 3) (.cint 1)) L) (ms.map Fm.d) [] = .ok ((fixL (ms.flatMap Fm.lv)).map .int) [] := by
    intro L hL
    rw [lcF_map (f := Fm.d) (g := fun m => (fixL m.lv).map .int) rfl]
    · congr 1
      clear ho hd hk hl
      induction ms with
      | nil => rfl
      | cons a r ih => simp [fixL_append, ih]
    · intro m hm
      have c := c_lv (g := g) (s := s) (f := f) (ab := ab) (h := []) (n := 0) (ho m hm) (hd m hm) (hk m hm)
      have st := fun L h3 => fix_step (E := Ek g s f ab k) (h := []) (vs := [3]) (L := L) rfl h3 m.lv (Fm.lv_leaf m)
      simp only [lcStep2, setTg_name]
      simp [stepF2, hL, arr, arr1, c, strip]
      exact st _ (by simp [hL])
  have l2 := fixL_len (ms.flatMap Fm.lv)
  have e3 : ∀ (ns : List Int) (L : Lc) (h : Hs), L.length = 5 → lcLoop ⟨ns.map .int, []⟩ (lcStep (Ek g s f ab k) [4] (.name 4) .nil (.blt .int (.cons (.var 4) .nil)) L) (ns.map .int) h = .ok (ns.map .int) h := by
    intro ns L h hL
    refine lc_map rfl ns fun i _ => lcStep_all rfl ?_
    simp [hL]
  simp [PF.b20, e, e3, newL_f, lim_of (show (fixL (ms.flatMap Fm.lv)).length ≤ 200000 by omega), srt_ints (show (fixL (ms.flatMap Fm.lv)).length < 64 by omega), knownL]
@[simp] theorem c_knownF {ms : List Fm} {k : Nat} (ho : ∀ m ∈ ms, m.ok = true) (hd : ∀ m ∈ ms, m.dep ≤ 14) (hk : ∀ m ∈ ms, m.dep < k) (hl : (ms.flatMap Fm.lv).length < 64) : callP (Ek g s f ab (k + 1)) 20 [.lst (ms.map Fm.d)] h = .ok (.tup ((knownL ms).map .int)) h := callE (r_knownF ho hd hk hl) (by simp [undrs_fms ho])
/-! ### the class -/
def ladD (m : Fm) : D := .obj "Ladder" ["form"] [m.d]
@[simp] theorem ins_lad : insOf (Ek g s f ab k) "Ladder" = some PF.cl18 := by
  unfold insOf
  rw [cf18]
  rfl
@[simp] theorem objI_lad {m : Fm} : objI h (ladD m) = some (("Ladder" : Str), [(("form" : Str), m.d)]) := id rfl
theorem look_form {d : D} : List.lookup ("form" : Str) [(("form" : Str), d)] = some d := by simp [List.lookup]
@[simp] theorem att_form {m : Fm} : getA (Ek g s f ab k) (ladD m) "form" h = .ok m.d h := by
  have e1 : PF.cl18.props.lookup ("form" : Str) = none := by decide +kernel
  have e2 : PF.cl18.flds.contains ("form" : Str) = true := by decide +kernel
  simp only [getA, objI_lad, ins_lad, e1, e2, if_true, look_form, optD_some]
@[simp] theorem undr_lad {n : Nat} {m : Fm} (ho : m.ok = true) : D.undr n (ladD m) = true := by simp [ladD, D.undr, undr_fm ho]
/-- the properties, methods of Ladder stand in the text -/
class AbL (ab : List Nat) : Prop where
  h : [129, 133, 134, 135, 136, 138].all (fun j => !ab.contains j) = true
theorem AbL.at [i : AbL ab] {j : Nat} (hj : [129, 133, 134, 135, 136, 138].contains j = true) : ab.contains j = false := by
  have := List.all_eq_true.mp i.h j (by simpa using hj)
  simpa using this
theorem r_pw {m : Fm} {k : Nat} (ho : m.ok = true) (hd : m.dep ≤ 14) (hk : m.dep < k) : run (PF.mk g s f ab) (k + 2) 133 [ladD m] [] = .ok (.int m.width) [] := by
  rw [rn133]
  simp [PF.b133, arr, arr1, c_width ho hd hk]
theorem r_pk {m : Fm} {k : Nat} (ho : m.ok = true) (hd : m.dep ≤ 14) (hk : m.dep < k) (hl : m.lv.length < 64) : run (PF.mk g s f ab) (k + 2) 134 [ladD m] [] = .ok (.tup (m.known.map .int)) [] := by
  rw [rn134]
  have c : ∀ h, callP (Ek g s f ab (k + 1)) 20 [.lst [m.d]] h = .ok (.tup ((knownL [m]).map .int)) h := fun h => c_knownF (ms := [m]) (by simpa using ho) (by simpa using hd) (by simpa using hk) (by simpa using hl)
  simp [PF.b134, arr, arr1, c, Fm.known]
theorem r_len {m : Fm} {k : Nat} (ho : m.ok = true) (hd : m.dep ≤ 14) (hk : m.dep < k) : run (PF.mk g s f ab) (k + 1) 136 [ladD m] [] = .ok (.int m.lv.length) [] := by
  rw [rn136]
  simp [PF.b136, arr, arr1, c_lv (n := 0) ho hd hk]
@[simp] theorem att_width [AbL ab] {m : Fm} {k : Nat} (ho : m.ok = true) (hd : m.dep ≤ 14) (hk : m.dep < k) : getA (Ek g s f ab (k + 2)) (ladD m) "width" h = .ok (.int m.width) h := by
  have e1 : PF.cl18.props.lookup ("width" : Str) = some 133 := by decide +kernel
  have e2 : ab.contains 133 = false := AbL.at (by decide)
  have c : callP (Ek g s f ab (k + 2)) 133 [ladD m] h = .ok (.int m.width) h := callE (r_pw ho hd hk) (by simp [undr_lad ho])
  simp only [getA, objI_lad, ins_lad, e1, e2, c, strip, Bool.false_eq_true, if_false]
@[simp] theorem att_known [AbL ab] {m : Fm} {k : Nat} (ho : m.ok = true) (hd : m.dep ≤ 14) (hk : m.dep < k) (hl : m.lv.length < 64) : getA (Ek g s f ab (k + 2)) (ladD m) "known" h = .ok (.tup (m.known.map .int)) h := by
  have e1 : PF.cl18.props.lookup ("known" : Str) = some 134 := by decide +kernel
  have e2 : ab.contains 134 = false := AbL.at (by decide)
  have c : callP (Ek g s f ab (k + 2)) 134 [ladD m] h = .ok (.tup (m.known.map .int)) h := callE (r_pk ho hd hk hl) (by simp [undr_lad ho])
  simp only [getA, objI_lad, ins_lad, e1, e2, c, strip, Bool.false_eq_true, if_false]
@[simp] theorem olen_lad [AbL ab] {m : Fm} {k : Nat} (ho : m.ok = true) (hd : m.dep ≤ 14) (hk : m.dep < k) : asLen (spec (Ek g s f ab (k + 1)) (ladD m) "__len__" [] h) = .ok (.int m.lv.length) h := by
  have e1 : PF.cl18.meths.lookup ("__len__" : Str) = some 136 := by decide +kernel
  have e2 : ab.contains 136 = false := AbL.at (by decide)
  have c : callP (Ek g s f ab (k + 1)) 136 [ladD m] h = .ok (.int m.lv.length) h := callE (r_len ho hd hk) (by simp [undr_lad ho])
  have l := Fm.lv_len m
  have l2 : 2 ^ m.dep ≤ 2 ^ 14 := Nat.pow_le_pow_right (by decide) hd
  simp only [spec, objI_lad, ins_lad, e1, e2, c, Bool.false_eq_true, if_false, asLen]
  rw [if_pos]
  simp only [Bool.and_eq_true, decide_eq_true_eq]
  omega
def srcs (ms : List Fm) (i : Int) : Bool := ms.any fun m => decide (m = .src i)
theorem eqD_src {m : Fm} {i : Int} (hl : m.isLf = true) : eqD m.d (.tup [.str "source", .int i]) = decide (m = .src i) := by
  cases m with
  | src j => simp [Fm.d, eqD, eqDs, feq]; rfl
  | fix j => simp [Fm.d, eqD, eqDs, feq, ne_fix_src]
  | join w a b => simp [Fm.isLf] at hl
theorem r_cont2 {m : Fm} {k : Nat} {i : Int} (ho : m.ok = true) (hd : m.dep ≤ 14) (hk : m.dep < k + 2) (hi : 0 ≤ i ∧ i < 3) : run (PF.mk g s f ab) (k + 3) 138 [ladD m, .int i] [] = .ok (.bl (srcs m.lv i)) [] := by
  rw [rn138]
  have e : opIn [] (.tup [.str "source", .int i]) (.lst (m.lv.map Fm.d)) = some (srcs m.lv i) := by
    have dl : ∀ x ∈ m.lv, data x.d = true ∧ dpt x.d = 1 := fun x hx => ⟨Fm.data_d (lv_ok ho x hx), by
      have := Fm.lv_leaf m x hx
      rw [Fm.dpt_d]
      cases x <;> first | rfl | simp [Fm.isLf] at this⟩
    have hs : PyData.strOk ("source" : Str) = true := by decide +kernel
    rw [opIn_lstD (by simp [data, datas, hs]) (datas_map fun x hx => (dl x hx).1) (by simp [dpt, dpts]) (Nat.le_trans (dpts_map (n := 1) fun x hx => by rw [(dl x hx).2]; exact Nat.le_refl _) (by decide)), List.any_map]
    congr 1
    unfold srcs
    refine any_congr' fun x hx => ?_
    exact eqD_src (Fm.lv_leaf m x hx)
  simp [PF.b138, arr, arr1, c_lv (n := 0) ho hd hk, c_num, hi.1, hi.2, e]
end
end EV

set_option Elab.async false
set_option linter.all false
set_option maxRecDepth 100000
set_option maxHeartbeats 4000000
/-! ladders: made of a form. -/
namespace EV
open PySem
/-- the form of a ladder, if a thing is one -/
def isLad (t : D) : Bool := isF 10 t
section
variable {g : List D} {s : List (List Sl)} {f : List Fn} {ab : List Nat} {k : Nat} {h : Hs}
theorem c_form {t : D} {k : Nat} (ht : data t = true) : callP (Ek g s f ab (k + 13)) 16 [t, .int 0] h = .ok (.bl (isF 10 t)) h := by
  have e := r_form (g := g) (s := s) (f := f) (ab := ab) 10 k (Nat.le_refl _) ht
  exact callE e (by simp [data_undr ht])
@[simp] theorem setA_form {t : D} {fs : List (Str × D)} (hf : fs = []) : setA (Ek g s f ab k) (.loc 0) "form" t [.ins "Ladder" fs] = .ok () [.ins "Ladder" [("form", t)]] := by
  subst hf
  have e2 : PF.cl18.flds.contains ("form" : Str) = true := by decide +kernel
  have e3 : ([O.ins "Ladder" []] : Hs)[0]? = some (.ins "Ladder" []) := rfl
  simp only [setA, e3, ins_lad, e2]
  rfl
theorem r_init_ok {m : Fm} {k : Nat} (ho : m.ok = true) (hd : m.dep < 10) (hl : m.lv.length ≤ 9) : run (PF.mk g s f ab) (k + 14) 129 [.loc 0, m.d] [.ins "Ladder" []] = .ok .non [.ins "Ladder" [("form", m.d)]] := by
  rw [show k + 14 = (k + 13) + 1 from rfl, rn129]
  have c1 : ∀ h, callP (Ek g s f ab (k + 13)) 16 [m.d, .int 0] h = .ok (.bl true) h := fun h => by rw [c_form (Fm.data_d ho), fm_isF ho hd]
  have hl2 : ¬ ((9 : Int) < (m.lv.length : Int)) := by omega
  have e : endS 1 (.next [some (.loc 0), some m.d] [.ins "Ladder" [("form", m.d)]]) = .ok .non [.ins "Ladder" [("form", m.d)]] := by
    simp [endS, done, frz, O.undr, undr_fm ho]
  simp [PF.b129, arr, arr1, c1, c_lv (n := 0) ho (show m.dep ≤ 14 by omega) (show m.dep < k + 13 by omega), hl2, e]
theorem r_init_no {t : D} {k : Nat} (ht : data t = true) (hn : ∀ m : Fm, t = m.d → m.ok = true → m.dep < 10 → 9 < m.lv.length) : run (PF.mk g s f ab) (k + 14) 129 [.loc 0, t] [.ins "Ladder" []] = .exc "BadLadder" none [.ins "Ladder" []] := by
  rw [show k + 14 = (k + 13) + 1 from rfl, rn129]
  have e : endS 1 (.exc "BadLadder" none [some (.loc 0), some t] [.ins "Ladder" []]) = .exc "BadLadder" none [.ins "Ladder" []] := by
    simp [endS, flatO, O.undr]
  have er : ∀ L h, raiseS (some PF.cl4) L h = .exc "BadLadder" none L h := fun L h => rfl
  cases hf : isF 10 t with
  | false =>
    have c1 : ∀ h, callP (Ek g s f ab (k + 13)) 16 [t, .int 0] h = .ok (.bl false) h := fun h => by rw [c_form ht, hf]
    simp [PF.b129, arr, arr1, c1, er, e]
  | true =>
    have c1 : ∀ h, callP (Ek g s f ab (k + 13)) 16 [t, .int 0] h = .ok (.bl true) h := fun h => by rw [c_form ht, hf]
    obtain ⟨m, rfl, ho, hd⟩ := isF_fm hf
    have hl := hn m rfl ho hd
    have hl2 : (9 : Int) < (m.lv.length : Int) := by omega
    simp [PF.b129, arr, arr1, c1, c_lv (n := 0) ho (show m.dep ≤ 14 by omega) (show m.dep < k + 13 by omega), hl2, e, er]
/-- Ladder(form), where sh hands on the form -/
theorem mk_ok [AbL ab] {m : Fm} {k sh : Nat} (hsh : (PF.shs ++ s)[sh]? = some [.pos 0, .pos 1]) (ho : m.ok = true) (hl : m.lv.length ≤ 9) : makeP (Ek g s f ab (k + 14)) 18 sh [m.d] [] h = .ok (ladD m) h := by
  have hd : m.dep < 10 := by have := Fm.dep_lv m; omega
  have e2 : ab.contains 129 = false := AbL.at (by decide)
  have hi : PF.cl18.init = some 129 := rfl
  have hx : PF.cl18.exc = false := rfl
  have hn : PF.cl18.nm = "Ladder" := rfl
  have r := r_init_ok (g := g) (s := s) (f := f) (ab := ab) (k := k) ho hd hl
  have d : done 0 (.loc 0) [.ins "Ladder" [("form", m.d)]] = .ok (ladD m) [] := by
    have z := frzs_id (res := resF [.ins "Ladder" [("form", m.d)]] 0 3) (ds := [m.d]) (by simp [undr_fm ho])
    have z2 : frz (resF [.ins "Ladder" [("form", m.d)]] 0 4) (.loc 0) = some (ladD m) := by
      show resF [.ins "Ladder" [("form", m.d)]] 0 4 0 = _
      unfold resF
      simp [z, ladD]
    unfold done
    rw [z2]
    rfl
  simp only [makeP, cs18, hx, undrs_cons, undr_fm ho, undrs_nil, Bool.and_self, if_true, Bool.false_eq_true, if_false, makeC, hi, hsh, Option.bind_some, arr, arr1, List.length_nil, List.getElem?_cons_zero, List.getElem?_cons_succ, e2, hn]
  simp only [List.nil_append, r, d, back]
theorem mk_no [AbL ab] {t : D} {k sh : Nat} (hsh : (PF.shs ++ s)[sh]? = some [.pos 0, .pos 1]) (ht : data t = true) (hn : ∀ m : Fm, t = m.d → m.ok = true → m.dep < 10 → 9 < m.lv.length) : makeP (Ek g s f ab (k + 14)) 18 sh [t] [] h = .exc "BadLadder" none h := by
  have e2 : ab.contains 129 = false := AbL.at (by decide)
  have hi : PF.cl18.init = some 129 := rfl
  have hx : PF.cl18.exc = false := rfl
  have hnm : PF.cl18.nm = "Ladder" := rfl
  have r := r_init_no (g := g) (s := s) (f := f) (ab := ab) (k := k) ht hn
  simp only [makeP, cs18, hx, undrs_cons, data_undr ht, undrs_nil, Bool.and_self, if_true, Bool.false_eq_true, if_false, makeC, hi, hsh, Option.bind_some, arr, arr1, List.length_nil, List.getElem?_cons_zero, List.getElem?_cons_succ, e2, hnm]
  simp [r, back, flatO]
theorem in_lad [AbL ab] {m : Fm} {k : Nat} {i : Int} (ho : m.ok = true) (hd : m.dep ≤ 14) (hk : m.dep < k + 2) (hi : 0 ≤ i ∧ i < 3) : asBl (spec (Ek g s f ab (k + 3)) (ladD m) "__contains__" [.int i] h) = .ok (.bl (srcs m.lv i)) h := by
  have e1 : PF.cl18.meths.lookup ("__contains__" : Str) = some 138 := by decide +kernel
  have e2 : ab.contains 138 = false := AbL.at (by decide)
  have c : callP (Ek g s f ab (k + 3)) 138 [ladD m, .int i] h = .ok (.bl (srcs m.lv i)) h := callE (r_cont2 ho hd hk hi) (by simp [undr_lad ho])
  simp only [spec, objI_lad, ins_lad, e1, e2, c, Bool.false_eq_true, if_false, asBl]
end
end EV

set_option Elab.async false
set_option linter.all false
set_option maxRecDepth 100000
/-! K16: the code. -/
namespace K16
open PySem EV
/-- law._law_number: 0 _law_script 1 _law_index 2 _law_cells 3 _law_cell 4 _law_total 5 _law_blend 6 _law_low 7 _law_high -/
def b233 : Ss := (.cons (.asg (.name 2) (.ife (.cmp .NotEq (.var 0) (.lst false .nil)) (.slc (.var 0) .no (.cint 63)) (.lst false (.cons (.cint 5) .nil))))
    (.cons (.asg (.name 3) (.bin .Add (.sub (.var 2) (.bin .Mod (.blt .int (.cons (.var 1) .nil)) (.blt .len (.cons (.var 2) .nil)))) (.bin .Mult (.cint 13) (.bin .FloorDiv (.var 1) (.blt .len (.cons (.var 2) .nil))))))
    (.cons (.par [6, 7] (.cons (.bin .Mod (.blt .int (.cons (.var 3) .nil)) (.cint 1000003)) (.cons (.bin .Mod (.blt .int (.cons (.bin .FloorDiv (.var 3) (.cint 1000003)) .nil)) (.cint 999983)) .nil)))
    (.cons (.asg (.name 4) (.bin .Mod (.blt .int (.cons (.blt .sum (.cons (.var 2) .nil)) .nil)) (.cint 65521)))
    (.cons (.asg (.name 5) (.bin .Mod (.blt .int (.cons (.bin .Add (.bin .Add (.bin .Mult (.bin .Add (.var 6) (.bin .Mult (.cint 977) (.var 1))) (.cint 48271)) (.bin .Mult (.cint 31) (.var 7))) (.var 4)) .nil)) (.cint 2147483647)))
    (.cons (.ret (.bin .Add (.bin .Mult (.bin .Mod (.blt .int (.cons (.bin .Mult (.var 5) (.bin .Add (.bin .Add (.var 5) (.bin .Mult (.cint 31) (.var 1))) (.cint 7))) .nil)) (.cint 2147483629)) (.cint 65537)) (.var 7)))
    .nil))))))
/-- law._law_pick: 0 _law_script 1 _law_at 2 _law_good 3 _law_bad 4 _law_odds 5 _law_seed -/
def b234 : Ss := (.cons (.asg (.name 5) (.blt .int (.cons (.call 233 110 (.cons (.var 0) (.cons (.var 1) .nil)) .nil) .nil)))
    (.cons (.ret (.ife (.cmp .Eq (.bin .Mod (.blt .int (.cons (.var 5) .nil)) (.var 4)) (.cint 0)) (.sub (.var 3) (.bin .Mod (.blt .int (.cons (.bin .FloorDiv (.var 5) (.var 4)) .nil)) (.blt .len (.cons (.var 3) .nil)))) (.sub (.var 2) (.bin .Mod (.blt .int (.cons (.bin .FloorDiv (.var 5) (.var 4)) .nil)) (.blt .len (.cons (.var 2) .nil))))))
    .nil))
/-- law._law_leaf: 0 _law_script 1 _law_at 2 _law_odds 3 _law_word 4 _law_good 5 _law_number_here 6 _law_seed -/
def b235 : Ss := (.cons (.asg (.name 3) (.call 234 111 (.cons (.var 0) (.cons (.var 1) (.cons (.tup (.cons (.cstr "source") (.cons (.cstr "source") (.cons (.cstr "fixed") .nil)))) (.cons (.tup (.cons (.cstr "Source") (.cons (.cstr "") (.cons (.cint 5) (.cons .cnon (.cons (.cstr "first") (.cons (.cstr "s") .nil))))))) (.cons (.var 2) .nil))))) .nil))
    (.cons (.asg (.name 4) (.ife (.cmp .Eq (.var 3) (.cstr "source")) (.tup (.cons (.cint 0) (.cons (.cint 1) (.cons (.cint 2) .nil)))) (.tup (.cons (.cint 0) (.cons (.cint 7) (.cons (.neg (.cint 3)) (.cons (.bin .Pow (.cint 10) (.cint 30)) (.cons (.neg (.bin .Pow (.cint 10) (.cint 25))) .nil))))))))
    (.cons (.asg (.name 5) (.call 234 111 (.cons (.var 0) (.cons (.bin .Add (.var 1) (.cint 1)) (.cons (.var 4) (.cons (.tup (.cons (.cint 3) (.cons (.neg (.cint 1)) (.cons (.cbl true) (.cons (.cbl false) (.cons .cnon (.cons (.cstr "0") (.cons (.tup (.cons (.cint 0) .nil)) (.cons (.bin .Pow (.cint 10) (.cint 30)) .nil))))))))) (.cons (.var 2) .nil))))) .nil))
    (.cons (.asg (.name 6) (.blt .int (.cons (.call 233 110 (.cons (.var 0) (.cons (.bin .Add (.var 1) (.cint 2)) .nil)) .nil) .nil)))
    (.cons (.ife (.cmp .Eq (.bin .Mod (.blt .int (.cons (.var 6) .nil)) (.bin .Mult (.cint 2) (.var 2))) (.cint 0)) (.cons (.ret (.sub (.tup (.cons (.tup (.cons (.var 3) .nil)) (.cons (.tup (.cons (.var 3) (.cons (.var 5) (.cons (.cint 0) .nil)))) (.cons (.lst false (.cons (.var 3) (.cons (.var 5) .nil))) (.cons (.tup .nil) (.cons (.var 3) (.cons .cnon .nil))))))) (.bin .Mod (.blt .int (.cons (.bin .FloorDiv (.var 6) (.cint 99)) .nil)) (.cint 6))))
    .nil) .nil)
    (.cons (.ret (.tup (.cons (.var 3) (.cons (.var 5) .nil))))
    .nil))))))
/-- law._law_tree: 0 _law_script 1 _law_at 2 _law_size 3 _law_odds 4 _law_seed 5 _law_bad 6 _law_word 7 _law_left 8 _law_parts -/
def b236 : Ss := (.cons (.ife (.cmp .Eq (.var 2) (.cint 1)) (.cons (.ret (.call 235 113 (.cons (.var 0) (.cons (.var 1) (.cons (.var 3) .nil))) .nil))
    .nil) .nil)
    (.cons (.asg (.name 4) (.blt .int (.cons (.call 233 110 (.cons (.var 0) (.cons (.var 1) .nil)) .nil) .nil)))
    (.cons (.asg (.name 5) (.tup (.cons (.cstr "First") (.cons (.cstr "plus") (.cons (.cstr "") (.cons (.cint 0) (.cons .cnon (.cons (.cstr "source") .nil))))))))
    (.cons (.asg (.name 6) (.call 234 111 (.cons (.var 0) (.cons (.bin .Add (.var 1) (.cint 1)) (.cons (.tup (.cons (.cstr "first") (.cons (.cstr "both") (.cons (.cstr "alone") (.cons (.cstr "except") (.cons (.cstr "later") .nil)))))) (.cons (.var 5) (.cons (.var 3) .nil))))) .nil))
    (.cons (.asg (.name 7) (.bin .Add (.cint 1) (.bin .Mod (.blt .int (.cons (.var 4) .nil)) (.bin .Sub (.var 2) (.cint 1)))))
    (.cons (.asg (.name 8) (.lst false (.cons (.call 236 112 (.cons (.var 0) (.cons (.bin .Add (.var 1) (.cint 4)) (.cons (.var 7) (.cons (.var 3) .nil)))) .nil) (.cons (.call 236 112 (.cons (.var 0) (.cons (.bin .Add (.bin .Add (.var 1) (.cint 4)) (.bin .Mult (.cint 7) (.var 7))) (.cons (.bin .Sub (.var 2) (.var 7)) (.cons (.var 3) .nil)))) .nil) .nil))))
    (.cons (.ife (.cmp .Eq (.bin .Mod (.blt .int (.cons (.bin .FloorDiv (.var 4) (.cint 99)) .nil)) (.bin .Mult (.cint 2) (.var 3))) (.cint 0)) (.cons (.asg (.name 8) (.sub (.tup (.cons (.slc (.var 8) .no (.cint 1)) (.cons (.bin .Add (.var 8) (.slc (.var 8) .no (.cint 1))) (.cons (.bin .Add (.var 8) (.lst false (.cons (.cint 0) .nil))) (.cons (.lst false .nil) .nil))))) (.bin .Mod (.blt .int (.cons (.bin .FloorDiv (.var 4) (.cint 999)) .nil)) (.cint 4))))
    .nil) .nil)
    (.cons (.ret (.ife (.cmp .Eq (.bin .Mod (.blt .int (.cons (.bin .FloorDiv (.var 4) (.cint 9999)) .nil)) (.bin .Mult (.cint 3) (.var 3))) (.cint 0)) (.bin .Add (.lst false (.cons (.var 6) .nil)) (.var 8)) (.bin .Add (.tup (.cons (.var 6) .nil)) (.blt .tuple (.cons (.var 8) .nil)))))
    .nil))))))))
/-- law._law_leaves: 0 _law_form -/
def b237 : Ss := (.cons (.ife (.or (.not (.blt .isi (.cons (.var 0) (.cons (.tyv "tuple") .nil)))) (.or (.cmp .Eq (.var 0) (.tup .nil)) (.not (.blt .isi (.cons (.sub (.var 0) (.cint 0)) (.cons (.tyv "str") .nil)))))) (.cons (.ret (.rep (.cons (.cint 0) .nil) 99))
    .nil) .nil)
    (.cons (.ife (.cmp .In (.sub (.var 0) (.cint 0)) (.tup (.cons (.cstr "source") (.cons (.cstr "fixed") .nil)))) (.cons (.ife (.or (.cmp .NotEq (.blt .len (.cons (.var 0) .nil)) (.cint 2)) (.or (.not (.blt .isi (.cons (.sub (.var 0) (.cint 1)) (.cons (.tyv "int") .nil)))) (.blt .isi (.cons (.sub (.var 0) (.cint 1)) (.cons (.tyv "bool") .nil))))) (.cons (.ret (.rep (.cons (.cint 0) .nil) 99))
    .nil) .nil)
    (.cons (.ret (.ife (.or (.cmp .Eq (.sub (.var 0) (.cint 0)) (.cstr "fixed")) (.chain .LtE .Lt (.cint 0) (.sub (.var 0) (.cint 1)) (.cint 3))) (.lst false (.cons (.var 0) .nil)) (.rep (.cons (.cint 0) .nil) 99)))
    .nil)) .nil)
    (.cons (.ife (.or (.cmp .NotIn (.sub (.var 0) (.cint 0)) (.tup (.cons (.cstr "first") (.cons (.cstr "both") (.cons (.cstr "alone") (.cons (.cstr "except") (.cons (.cstr "later") .nil))))))) (.cmp .NotEq (.blt .len (.cons (.var 0) .nil)) (.cint 3))) (.cons (.ret (.rep (.cons (.cint 0) .nil) 99))
    .nil) .nil)
    (.cons (.ret (.bin .Add (.call 237 114 (.cons (.sub (.var 0) (.cint 1)) .nil) .nil) (.call 237 114 (.cons (.sub (.var 0) (.cint 2)) .nil) .nil)))
    .nil))))
/-- law._law_made: 0 _law_form -/
def b238 : Ss := (.cons (.tryC (.cons (.ret (.new 18 85 (.cons (.var 0) .nil) .nil))
    .nil) 4 .cnon)
    .nil)
/-- law._law_ladder_right: 0 _law_found 1 _law_form 2 _law_leaves_here 3 _law_mine 4 _law_known 5 _law_leaf_here 6 _law_source -/
def b239 : Ss := (.cons (.asg (.name 3) (.lc false [5] (.name 5) (.of (.var 2)) (.cons (.cmp .Eq (.sub (.var 5) (.cint 0)) (.cstr "source")) .nil) (.sub (.var 5) (.cint 1))))
    (.cons (.asg (.name 4) (.srt (.lc false [5] (.name 5) (.of (.var 2)) (.cons (.cmp .Eq (.sub (.var 5) (.cint 0)) (.cstr "fixed")) .nil) (.blt .int (.cons (.sub (.var 5) (.cint 1)) .nil)))))
    (.cons (.ife (.or (.cmp .NotEq (.att (.var 0) "form") (.var 1)) (.or (.cmp .NotEq (.olen (.var 0)) (.blt .len (.cons (.var 2) .nil))) (.cmp .NotEq (.att (.var 0) "known") (.blt .tuple (.cons (.var 4) .nil))))) (.cons (.ret (.cbl false))
    .nil) .nil)
    (.cons (.ife (.cmp .NotEq (.att (.var 0) "width") (.blt .max (.cons (.lc false [6] (.name 6) (.of (.bin .Add (.var 3) (.lst false (.cons (.cint 0) .nil)))) .nil (.bin .Add (.blt .int (.cons (.var 6) .nil)) (.cint 1))) .nil))) (.cons (.ret (.cbl false))
    .nil) .nil)
    (.cons (.ret (.blt .all (.cons (.lc false [6] (.name 6) (.of (.tup (.cons (.cint 0) (.cons (.cint 1) (.cons (.cint 2) .nil))))) .nil (.cmp .Eq (.oin (.var 6) (.var 0)) (.cmp .In (.var 6) (.var 3)))) .nil)))
    .nil)))))
def b240_1 : Ss := (.cons (.asg (.name 2) (.blt .int (.cons (.call 233 110 (.cons (.var 0) (.cons (.bin .Add (.cint 2900) (.var 1)) .nil)) .nil) .nil)))
    (.cons (.par [4, 5] (.cons (.sub (.tup (.cons (.cint 1) (.cons (.cint 2) (.cons (.cint 3) (.cons (.cint 5) (.cons (.cint 8) (.cons (.cint 9) (.cons (.cint 9) (.cons (.cint 10) (.cons (.cint 11) (.cons (.cint 12) .nil))))))))))) (.bin .Mod (.blt .int (.cons (.var 2) .nil)) (.cint 10))) (.cons (.sub (.tup (.cons (.cint 200) (.cons (.cint 40) (.cons (.cint 12) .nil)))) (.bin .Mod (.blt .int (.cons (.bin .FloorDiv (.var 2) (.cint 10)) .nil)) (.cint 3))) .nil)))
    (.cons (.asg (.name 3) (.call 236 112 (.cons (.var 0) (.cons (.bin .Mult (.cint 110) (.var 1)) (.cons (.var 4) (.cons (.var 5) .nil)))) .nil))
    (.cons (.par [6, 7] (.cons (.call 238 116 (.cons (.var 3) .nil) .nil) (.cons (.call 237 114 (.cons (.var 3) .nil) .nil) .nil)))
    (.cons (.ife (.cmp .NotEq (.cmp .Is (.var 6) .cnon) (.cmp .Gt (.blt .len (.cons (.var 7) .nil)) (.cint 9))) (.cons (.ret (.cbl false))
    .nil) .nil)
    (.cons (.ife (.and (.cmp .IsNot (.var 6) .cnon) (.not (.call 239 115 (.cons (.var 6) (.cons (.var 3) (.cons (.var 7) .nil))) .nil))) (.cons (.ret (.cbl false))
    .nil) .nil)
    .nil))))))
/-- law.law: 0 _law_script 1 _law_turn 2 _law_seed 3 _law_form 4 _law_many 5 _law_odds 6 _law_found 7 _law_leaves_here -/
def b240 : Ss := (.cons (.for (.name 1) (.rng (.cons (.cint 24) .nil)) b240_1)
    (.cons (.ret (.cbl true))
    .nil))
def fns : List Fn := [⟨2, 8, b233⟩, ⟨5, 6, b234⟩, ⟨3, 7, b235⟩, ⟨4, 9, b236⟩, ⟨1, 1, b237⟩, ⟨1, 1, b238⟩, ⟨3, 7, b239⟩, ⟨1, 8, b240⟩]
def shs : List (List Sl) := [[.pos 0, .pos 1], [.pos 0, .pos 1, .pos 2, .pos 3, .pos 4], [.pos 0, .pos 1, .pos 2, .pos 3], [.pos 0, .pos 1, .pos 2], [.pos 0], [.pos 0, .pos 1, .pos 2], [.pos 0]]
def glo : List D := []
def ab : List Nat := [124, 125, 126, 127, 128, 130, 131, 132, 139, 154, 155, 156, 157, 158, 159, 160, 161, 162, 163, 164, 165, 166, 167, 168, 169, 170, 171, 172, 173, 174, 175, 176, 177, 178, 179, 180, 181, 182, 183, 184, 185, 186, 187, 188, 189, 190, 191, 192, 193, 194, 195, 196, 197, 198, 199, 200, 201, 202, 203, 204, 205, 206, 207, 208, 209, 210, 211, 212, 213, 214, 215, 216, 217, 218, 219, 220, 221, 222, 223, 224, 225, 226, 227, 228, 229, 230, 231, 232]
abbrev p : Prg := PF.mk glo shs fns ab
end K16

set_option Elab.async false
set_option linter.all false
set_option maxRecDepth 100000
/-! K16: the defs, opened. -/
namespace K16
open PySem EV
abbrev Ek (k : Nat) : Ev := EV.Ek glo shs fns ab k
section
variable {k : Nat}
theorem rn233 {a0 a1 : D} {h : Hs} : run p (k + 1) 233 [a0, a1] h = endS h.length (exSs (Ek k) b233 [some a0, some a1, none, none, none, none, none, none] h) := by kernel_rfl
theorem rn234 {a0 a1 a2 a3 a4 : D} {h : Hs} : run p (k + 1) 234 [a0, a1, a2, a3, a4] h = endS h.length (exSs (Ek k) b234 [some a0, some a1, some a2, some a3, some a4, none] h) := by kernel_rfl
theorem rn235 {a0 a1 a2 : D} {h : Hs} : run p (k + 1) 235 [a0, a1, a2] h = endS h.length (exSs (Ek k) b235 [some a0, some a1, some a2, none, none, none, none] h) := by kernel_rfl
theorem rn236 {a0 a1 a2 a3 : D} {h : Hs} : run p (k + 1) 236 [a0, a1, a2, a3] h = endS h.length (exSs (Ek k) b236 [some a0, some a1, some a2, some a3, none, none, none, none, none] h) := by kernel_rfl
theorem rn237 {a0 : D} {h : Hs} : run p (k + 1) 237 [a0] h = endS h.length (exSs (Ek k) b237 [some a0] h) := by kernel_rfl
theorem rn238 {a0 : D} {h : Hs} : run p (k + 1) 238 [a0] h = endS h.length (exSs (Ek k) b238 [some a0] h) := by kernel_rfl
theorem rn239 {a0 a1 a2 : D} {h : Hs} : run p (k + 1) 239 [a0, a1, a2] h = endS h.length (exSs (Ek k) b239 [some a0, some a1, some a2, none, none, none, none] h) := by kernel_rfl
theorem rn240 {a0 : D} {h : Hs} : run p (k + 1) 240 [a0] h = endS h.length (exSs (Ek k) b240 [some a0, none, none, none, none, none, none, none] h) := by kernel_rfl
@[simp] theorem sh110 : (PF.shs ++ shs)[110]? = some [.pos 0, .pos 1] := by kernel_rfl
@[simp] theorem sh111 : (PF.shs ++ shs)[111]? = some [.pos 0, .pos 1, .pos 2, .pos 3, .pos 4] := by kernel_rfl
@[simp] theorem sh112 : (PF.shs ++ shs)[112]? = some [.pos 0, .pos 1, .pos 2, .pos 3] := by kernel_rfl
@[simp] theorem sh113 : (PF.shs ++ shs)[113]? = some [.pos 0, .pos 1, .pos 2] := by kernel_rfl
@[simp] theorem sh114 : (PF.shs ++ shs)[114]? = some [.pos 0] := by kernel_rfl
@[simp] theorem sh115 : (PF.shs ++ shs)[115]? = some [.pos 0, .pos 1, .pos 2] := by kernel_rfl
@[simp] theorem sh116 : (PF.shs ++ shs)[116]? = some [.pos 0] := by kernel_rfl
end
end K16

set_option Elab.async false
set_option linter.all false
set_option maxRecDepth 100000
set_option maxHeartbeats 4000000
/-! K16: what the law's defs come to. -/
namespace K16
open PySem EV
instance : AbL ab := ⟨by decide +kernel⟩
abbrev scr (ns : List Int) : D := .lst (ns.map .int)
theorem callK {k fn : Nat} {l : List D} {h : Hs} {d : D} (e : run p k fn l [] = .ok d []) (hl : D.undrs 0 l = true) : callP (Ek k) fn l h = .ok d h := callE e hl
theorem c_nr {ns : List Int} {i : Int} {k : Nat} {h : Hs} (h0 : 0 ≤ i) (h1 : i < 100000) : callP (Ek (k + 1)) 233 [scr ns, .int i] h = .ok (.int (num ns i)) h := by
  refine callK ?_ (by simp)
  rw [rn233, show b233 = bNum from rfl, ex_num h0 h1]
  simp
/-- an index that is one -/
theorem sub_mod {xs : List D} {i : Int} {h : Hs} (hx : xs ≠ []) : ∃ d ∈ xs, opSub (.tup xs) (.int (i % (xs.length : Int))) h = .ok d h := by
  have hl : (0 : Int) < xs.length := by
    cases xs with
    | nil => exact absurd rfl hx
    | cons x r => simp
  have h0 := Int.emod_nonneg i (show (xs.length : Int) ≠ 0 by omega)
  have h1 := Int.emod_lt_of_pos i hl
  have hn : (i % (xs.length : Int)).toNat < xs.length := by omega
  refine ⟨xs[(i % (xs.length : Int)).toNat], List.getElem_mem hn, ?_⟩
  simp only [opSub, items_tup, atI, ixN, h0, h1, if_true, List.getElem?_eq_getElem hn, optD_some]
theorem c_pick {ns : List Int} {i o : Int} {gs bs : List D} {k : Nat} {h : Hs} (h0 : 0 ≤ i) (h1 : i < 100000) (hg : gs ≠ []) (hb : bs ≠ []) (ho : 0 < o) (ho2 : o < 1000) (hgl : gs.length < 1000) (hbl : bs.length < 1000) (pu : D.undrs 0 gs = true) (pb : D.undrs 0 bs = true) : ∃ d, (d ∈ gs ∨ d ∈ bs) ∧ callP (Ek (k + 2)) 234 [scr ns, .int i, .tup gs, .tup bs, .int o] h = .ok d h := by
  obtain ⟨d1, m1, e1⟩ := sub_mod (i := num ns i / o) (h := []) hg
  obtain ⟨d2, m2, e2⟩ := sub_mod (i := num ns i / o) (h := []) hb
  have u : ∀ {xs : List D} {d : D}, d ∈ xs → D.undrs 0 xs = true → D.undr 0 d = true := by
    intro xs
    induction xs with
    | nil => intro d m _; simp at m
    | cons x r ih =>
      intro d m hu
      simp only [undrs_cons, Bool.and_eq_true] at hu
      rcases List.mem_cons.mp m with rfl | m
      · exact hu.1
      · exact ih m hu.2
  have lg : (0 : Int) < gs.length := by cases gs with | nil => exact absurd rfl hg | cons x r => simp
  have lb : (0 : Int) < bs.length := by cases bs with | nil => exact absurd rfl hb | cons x r => simp
  cases hc : decide (num ns i % o = 0) with
  | true =>
    refine ⟨d2, .inr m2, callK ?_ (by simp [pu, pb])⟩
    rw [rn234]
    simp [b234, arr, arr1, c_nr h0 h1, mod_int ho, hc, fdiv_int ho (show o < 1073741824 by omega), mod_int lb, e2, u m2 pb]
  | false =>
    refine ⟨d1, .inl m1, callK ?_ (by simp [pu, pb])⟩
    rw [rn234]
    simp [b234, arr, arr1, c_nr h0 h1, mod_int ho, hc, fdiv_int ho (show o < 1073741824 by omega), mod_int lg, e1, u m1 pu]
def Nice (n : Nat) (d : D) : Prop := data d = true ∧ dpt d ≤ n
theorem nice_all {n : Nat} {l : List D} (h : (l.all fun d => data d && decide (dpt d ≤ n)) = true) {d : D} (hd : d ∈ l) : Nice n d := by
  have := List.all_eq_true.mp h d hd
  simp only [Bool.and_eq_true, decide_eq_true_eq] at this
  exact this
theorem Nice.mono {m n : Nat} {d : D} (h : Nice m d) (hn : m ≤ n) : Nice n d := ⟨h.1, Nat.le_trans h.2 hn⟩
theorem Nice.tup {n : Nat} {xs : List D} (h : ∀ x ∈ xs, Nice n x) : Nice (n + 1) (.tup xs) := by
  have a : datas (xs.map id) = true := datas_map fun x hx => (h x hx).1
  have b : dpts (xs.map id) ≤ n := dpts_map fun x hx => (h x hx).2
  rw [List.map_id] at a b
  exact ⟨by simpa only [data] using a, by simp only [dpt]; omega⟩
theorem Nice.lst {n : Nat} {xs : List D} (h : ∀ x ∈ xs, Nice n x) : Nice (n + 1) (.lst xs) := by
  have a : datas (xs.map id) = true := datas_map fun x hx => (h x hx).1
  have b : dpts (xs.map id) ≤ n := dpts_map fun x hx => (h x hx).2
  rw [List.map_id] at a b
  exact ⟨by simpa only [data] using a, by simp only [dpt]; omega⟩
theorem Nice.int {n : Nat} {i : Int} : Nice n (.int i) := ⟨rfl, by simp [dpt]⟩
theorem Nice.non {n : Nat} : Nice n .non := ⟨rfl, by simp [dpt]⟩
def wordsL : List D := [.str "source", .str "source", .str "fixed"]
def oddL : List D := [.str "Source", .str "", .int 5, .non, .str "first", .str "s"]
def numA : List D := [.int 0, .int 1, .int 2]
def numB : List D := [.int 0, .int 7, .int (-3), .int 1000000000000000000000000000000, .int (-10000000000000000000000000)]
def oddN : List D := [.int 3, .int (-1), .bl true, .bl false, .non, .str "0", .tup [.int 0], .int 1000000000000000000000000000000]
theorem p30 {h : Hs} : opBin .Pow (.int 10) (.int 30) h = .ok (.int 1000000000000000000000000000000) h := rfl
theorem p25 {h : Hs} : opBin .Pow (.int 10) (.int 25) h = .ok (.int 10000000000000000000000000) h := rfl
theorem c_leaf {ns : List Int} {i o : Int} {k : Nat} {h : Hs} (h0 : 0 ≤ i) (h1 : i < 90000) (ho : 0 < o) (ho2 : o < 500) : ∃ d, Nice 2 d ∧ callP (Ek (k + 3)) 235 [scr ns, .int i, .int o] h = .ok d h := by
  obtain ⟨wd, mw, ew⟩ := c_pick (ns := ns) (i := i) (o := o) (gs := wordsL) (bs := oddL) (k := k) (h := []) h0 (by omega) (by decide) (by decide) ho (by omega) (by decide) (by decide) (by decide +kernel) (by decide +kernel)
  have nw : Nice 0 wd := by
    rcases mw with m | m
    · exact nice_all (by decide +kernel) m
    · exact nice_all (by decide +kernel) m
  have key : ∃ gl : List D, (gl = numA ∨ gl = numB) ∧ ∀ L : Lc, L.length = 7 → L[3]? = some (some wd) → ex (Ek (k + 2)) (.ife (.cmp .Eq (.var 3) (.cstr "source")) (.tup (.cons (.cint 0) (.cons (.cint 1) (.cons (.cint 2) .nil)))) (.tup (.cons (.cint 0) (.cons (.cint 7) (.cons (.neg (.cint 3)) (.cons (.bin .Pow (.cint 10) (.cint 30)) (.cons (.neg (.bin .Pow (.cint 10) (.cint 25))) .nil))))))) false L [] = .ok (.tup gl) [] := by
    have e : opEq [] wd (.str "source") = some (eqD wd (.str "source")) := opEq_data nw.1 (by decide +kernel) (Nat.le_trans nw.2 (by decide)) (by simp [dpt])
    cases hq : eqD wd (.str "source") with
    | true => exact ⟨numA, .inl rfl, fun L hL h3 => by simp [h3, e, hq, numA]⟩
    | false => exact ⟨numB, .inr rfl, fun L hL h3 => by simp [h3, e, hq, numB, p30, p25]⟩
  obtain ⟨gl, hgl, eg⟩ := key
  have gl0 : gl ≠ [] ∧ gl.length < 1000 ∧ D.undrs 0 gl = true ∧ (gl.all fun d => data d && decide (dpt d ≤ 1)) = true := by rcases hgl with rfl | rfl <;> decide +kernel
  obtain ⟨nd, mn, en⟩ := c_pick (ns := ns) (i := i + 1) (o := o) (gs := gl) (bs := oddN) (k := k) (h := []) (by omega) (by omega) gl0.1 (by decide) ho (by omega) gl0.2.1 (by decide) gl0.2.2.1 (by decide +kernel)
  have nn : Nice 1 nd := by
    rcases mn with m | m
    · exact nice_all gl0.2.2.2 m
    · exact nice_all (by decide +kernel) m
  have n1 : Nice 2 (.tup [wd, nd]) := Nice.tup fun x hx => by
    simp only [List.mem_cons, List.not_mem_nil, or_false] at hx
    rcases hx with rfl | rfl
    · exact nw.mono (by decide)
    · exact nn
  have uw := data_undr (n := 0) nw.1
  have un := data_undr (n := 0) nn.1
  have ll : ∀ d ∈ [D.tup [wd], .tup [wd, nd, .int 0], .lst [wd, nd], .tup [], wd, .non], Nice 2 d := by
    intro d hd
    simp only [List.mem_cons, List.not_mem_nil, or_false] at hd
    rcases hd with rfl | rfl | rfl | rfl | rfl | rfl
    · exact Nice.tup fun x hx => by simp at hx; subst hx; exact nw.mono (by decide)
    · exact Nice.tup fun x hx => by
        simp at hx
        rcases hx with rfl | rfl | rfl
        · exact nw.mono (by decide)
        · exact nn
        · exact Nice.int
    · exact Nice.lst fun x hx => by
        simp at hx
        rcases hx with rfl | rfl
        · exact nw.mono (by decide)
        · exact nn
    · exact Nice.tup fun x hx => by simp at hx
    · exact nw.mono (by decide)
    · exact Nice.non
  obtain ⟨d6, m6, e6⟩ := sub_mod (xs := [D.tup [wd], .tup [wd, nd, .int 0], .lst [wd, nd], .tup [], wd, .non]) (i := num ns (i + 2) / 99) (h := []) (by simp)
  have n6 := ll d6 m6
  have ew' := ew
  have en' := en
  simp only [wordsL, oddL] at ew'
  simp only [oddN] at en'
  have o2 : 0 < 2 * o := by omega
  cases hc : decide (num ns (i + 2) % (2 * o) = 0) with
  | true =>
    refine ⟨d6, n6, callK ?_ (by simp)⟩
    rw [rn235]
    have e6' : opSub (.tup [D.tup [wd], .tup [wd, nd, .int 0], .lst [wd, nd], .tup [], wd, .non]) (.int (num ns (i + 2) / 99 % 6)) [] = .ok d6 [] := e6
    simp [b235, -ex_ife, arr, arr1, ew', eg, en', c_nr (show 0 ≤ i + 2 by omega) (show i + 2 < 100000 by omega), mul_l, mod_int o2, mod_int, fdiv_int, hc, p30, e6', data_undr n6.1]
  | false =>
    refine ⟨_, n1, callK ?_ (by simp)⟩
    rw [rn235]
    simp [b235, -ex_ife, arr, arr1, ew', eg, en', c_nr (show 0 ≤ i + 2 by omega) (show i + 2 < 100000 by omega), mul_l, mod_int o2, hc, p30, uw, un]
end K16

set_option Elab.async false
set_option linter.all false
set_option maxRecDepth 100000
set_option maxHeartbeats 4000000
/-! K16: trees, leaves. -/
namespace K16
open PySem EV
def joinL : List D := [.str "first", .str "both", .str "alone", .str "except", .str "later"]
def oddJ : List D := [.str "First", .str "plus", .str "", .int 0, .non, .str "source"]
theorem newT_le {xs : List D} {h : Hs} (hl : xs.length ≤ lim) : newT xs h = .ok (.tup xs) h := by
  unfold newT
  rw [if_pos (Nat.ble_eq.mpr hl)]
theorem nices_undrs {n m : Nat} {xs : List D} (h : ∀ x ∈ xs, Nice n x) : D.undrs m xs = true := by
  have := undrs_map (n := m) (f := id) (xs := xs) fun x hx => data_undr (h x hx).1
  simpa using this
theorem fin {n k : Nat} {sd o : Int} {w : D} (ho : 0 < o) (hw : Nice 0 w) {P : List D} (hP : ∀ x ∈ P, Nice n x) (hl : P.length ≤ 3) : ∃ d, Nice (n + 1) d ∧ ∀ L : Lc, L[6]? = some (some w) → L[8]? = some (some (.lst P)) → L[4]? = some (some (.int sd)) → L[3]? = some (some (.int o)) →
    ex (Ek k) (.ife (.cmp .Eq (.bin .Mod (.blt .int (.cons (.bin .FloorDiv (.var 4) (.cint 9999)) .nil)) (.bin .Mult (.cint 3) (.var 3))) (.cint 0)) (.bin .Add (.lst false (.cons (.var 6) .nil)) (.var 8)) (.bin .Add (.tup (.cons (.var 6) .nil)) (.blt .tuple (.cons (.var 8) .nil)))) false L [] = .ok d [] := by
  have o3 : 0 < 3 * o := by omega
  have hc : ∀ x ∈ w :: P, Nice n x := fun x hx => by
    rcases List.mem_cons.mp hx with rfl | hx
    · exact hw.mono (Nat.zero_le _)
    · exact hP x hx
  have hlm : (w :: P).length ≤ lim := Nat.le_trans (by rw [List.length_cons]; omega) (show 10 ≤ lim by decide)
  cases hb : decide (sd / 9999 % (3 * o) = 0) with
  | true =>
    refine ⟨.lst (w :: P), Nice.lst hc, fun L h6 h8 h4 h3 => ?_⟩
    simp [h6, h8, h4, h3, mul_l, mod_int o3, fdiv_int, hb, newL_f hlm]
  | false =>
    refine ⟨.tup (w :: P), Nice.tup hc, fun L h6 h8 h4 h3 => ?_⟩
    simp [h6, h8, h4, h3, mul_l, mod_int o3, fdiv_int, hb, newT_le hlm]
theorem r_tree {ns : List Int} {o : Int} (ho : 0 < o) (ho2 : o < 500) : ∀ (n k : Nat) (i : Int), 1 ≤ n → n ≤ 12 → 0 ≤ i → i + 20 * n < 90000 → ∃ d, Nice (n + 1) d ∧ run p (k + n + 3) 236 [scr ns, .int i, .int n, .int o] [] = .ok d [] := by
  intro n
  induction n using Nat.strongRecOn with
  | _ n ih =>
    intro k i hn1 hn2 h0 h1
    rw [show k + n + 3 = (k + n + 2) + 1 from rfl, rn236]
    by_cases hn : n = 1
    · subst hn
      obtain ⟨d, nd, e⟩ := c_leaf (ns := ns) (i := i) (o := o) (k := k) (h := []) h0 (by omega) ho ho2
      refine ⟨d, nd, ?_⟩
      have e' : callP (Ek (k + 1 + 2)) 235 [scr ns, .int i, .int o] [] = .ok d [] := e
      simp [b236, arr, arr1, e', data_undr nd.1]
    · have hn' : ¬ ((n : Int) = 1) := by omega
      have m0 : (0 : Int) < (n : Int) - 1 := by omega
      have q0 := Int.emod_nonneg (num ns i) (show (n : Int) - 1 ≠ 0 by omega)
      have q1 := Int.emod_lt_of_pos (num ns i) m0
      obtain ⟨lf, hlf⟩ : ∃ lf : Nat, (lf : Int) = 1 + num ns i % ((n : Int) - 1) := ⟨(1 + num ns i % ((n : Int) - 1)).toNat, by omega⟩
      obtain ⟨a, na, ea⟩ := ih lf (by omega) (k + (n - 1 - lf)) (i + 4) (by omega) (by omega) (by omega) (by omega)
      obtain ⟨b, nb, eb⟩ := ih (n - lf) (by omega) (k + (lf - 1)) (i + 4 + 7 * lf) (by omega) (by omega) (by omega) (by omega)
      have ca : ∀ h, callP (Ek (k + n + 2)) 236 [scr ns, .int (i + 4), .int lf, .int o] h = .ok a h := fun h => by
        rw [show k + n + 2 = k + (n - 1 - lf) + lf + 3 by omega]
        exact callK ea (by simp)
      have cb : ∀ h, callP (Ek (k + n + 2)) 236 [scr ns, .int (i + 4 + 7 * lf), .int ((n : Int) - lf), .int o] h = .ok b h := fun h => by
        rw [show k + n + 2 = k + (lf - 1) + (n - lf) + 3 by omega, show (n : Int) - lf = ((n - lf : Nat) : Int) by omega]
        exact callK eb (by simp)
      obtain ⟨w, mw, ew⟩ := c_pick (ns := ns) (i := i + 1) (o := o) (gs := joinL) (bs := oddJ) (k := k + n) (h := []) (by omega) (by omega) (by decide) (by decide) ho (by omega) (by decide) (by decide) (by decide +kernel) (by decide +kernel)
      have nw : Nice 0 w := by
        rcases mw with m | m
        · exact nice_all (by decide +kernel) m
        · exact nice_all (by decide +kernel) m
      simp only [joinL, oddJ] at ew
      have na' : Nice n a := na.mono (by omega)
      have nb' : Nice n b := nb.mono (by omega)
      have o2 : 0 < 2 * o := by omega
      have sl : ∀ h, opSlc (.lst [a, b]) .non (.int 1) h = .ok (.lst [a]) h := fun h => rfl
      have nr := c_nr (ns := ns) (i := i) (k := k + n + 1) (h := []) h0 (by omega)
      cases hc : decide (num ns i / 99 % (2 * o) = 0) with
      | false =>
        obtain ⟨d, nd, e⟩ := fin (k := k + n + 2) (sd := num ns i) ho nw (P := [a, b]) (fun x hx => by
          simp at hx
          rcases hx with rfl | rfl <;> assumption) (by simp)
        refine ⟨d, nd, ?_⟩
        simp [b236, -ex_ife, arr, arr1, hn', nr, ew, mod_int m0, ← hlf, ca, cb, mul_l, mod_int o2, fdiv_int, hc, e, data_undr nd.1]
      | true =>
        obtain ⟨pd, mp, ep⟩ := sub_mod (xs := [D.lst [a], .lst [a, b, a], .lst [a, b, .int 0], .lst []]) (i := num ns i / 999) (h := []) (by simp)
        have hp : ∃ P : List D, pd = .lst P ∧ (∀ x ∈ P, Nice n x) ∧ P.length ≤ 3 := by
          simp only [List.mem_cons, List.not_mem_nil, or_false] at mp
          rcases mp with rfl | rfl | rfl | rfl
          · exact ⟨_, rfl, fun x hx => by simp at hx; subst hx; exact na', by simp⟩
          · exact ⟨_, rfl, fun x hx => by simp at hx; rcases hx with rfl | rfl | rfl <;> assumption, by simp⟩
          · exact ⟨_, rfl, fun x hx => by
              simp at hx
              rcases hx with rfl | rfl | rfl
              · exact na'
              · exact nb'
              · exact Nice.int, by simp⟩
          · exact ⟨_, rfl, fun x hx => by simp at hx, by simp⟩
        obtain ⟨P, rfl, hP, hPl⟩ := hp
        have ep' : opSub (.tup [D.lst [a], .lst [a, b, a], .lst [a, b, .int 0], .lst []]) (.int (num ns i / 999 % 4)) [] = .ok (.lst P) [] := ep
        obtain ⟨d, nd, e⟩ := fin (k := k + n + 2) (sd := num ns i) ho nw hP hPl
        refine ⟨d, nd, ?_⟩
        simp [b236, -ex_ife, arr, arr1, hn', nr, ew, mod_int m0, ← hlf, ca, cb, mul_l, mod_int o2, mod_int, fdiv_int, hc, sl, ep', e, data_undr nd.1]
/-! ### leaves -/
def nines : List D := (List.replicate 99 [D.int 0]).flatten
theorem nines_len : nines.length = 99 := by decide +kernel
theorem rep99 {h : Hs} : repR [.int 0] 99 h = .ok (.lst nines) h := by
  unfold repR
  rw [if_pos (by decide +kernel)]
  rfl
theorem nines_undrs {n : Nat} : D.undrs n nines = true := by
  have : nines = (List.replicate 99 (0 : Int)).map .int := rfl
  rw [this]
  exact undrs_ints n _
@[simp] theorem in_two {x : Str} {h : Hs} : opIn h (.str x) (.tup [.str "source", .str "fixed"]) = some (x == ("source" : Str) || x == ("fixed" : Str)) := by
  rw [opIn_flat rfl rfl rfl]
  simp [feq, BEq.comm]
@[simp] theorem isi_intD {d : D} {h : Hs} (hd : data d = true) : callB .isi [d, .ty "int"] h = .ok (.bl (match d with | .int _ => true | .bl _ => true | _ => false)) h := by
  cases d <;> first | (simp [data] at hd; done) | rfl
@[simp] theorem isi_blD {d : D} {h : Hs} (hd : data d = true) : callB .isi [d, .ty "bool"] h = .ok (.bl (match d with | .bl _ => true | _ => false)) h := by
  cases d <;> first | (simp [data] at hd; done) | rfl
/-- what the law tells of a thing: its leaves if it is a form, else 99 things at least -/
structure Lvs (n : Nat) (t : D) (l : List D) : Prop where
  pu : D.undrs 0 l = true
  le : l.length ≤ 99 * 2 ^ n
  is : (∃ m : Fm, t = m.d ∧ m.ok = true ∧ l = m.lv.map Fm.d) ∨ (99 ≤ l.length ∧ ∀ m : Fm, m.ok = true → t ≠ m.d)
theorem Lvs.no {n : Nat} {t : D} (h : ∀ m : Fm, m.ok = true → t ≠ m.d) : Lvs n t nines := ⟨nines_undrs, by rw [nines_len]; have : 1 ≤ 2 ^ n := Nat.one_le_two_pow; omega, .inr ⟨by rw [nines_len]; exact Nat.le_refl _, h⟩⟩
theorem no_nt {t : D} (h : ∀ xs, t ≠ .tup xs) : ∀ m : Fm, m.ok = true → t ≠ m.d := fun m _ e => by cases m <;> exact h _ e
theorem no_nil : ∀ m : Fm, m.ok = true → D.tup [] ≠ m.d := fun m _ e => by cases m <;> (simp only [Fm.d] at e; cases e)
theorem no_ns {x : D} {xs : List D} (h : ∀ w, x ≠ .str w) : ∀ m : Fm, m.ok = true → D.tup (x :: xs) ≠ m.d := fun m _ e => by cases m <;> (simp only [Fm.d, D.tup.injEq, List.cons.injEq] at e; exact h _ e.1)
theorem no_isF {t : D} (h : ∀ N, isF (N + 1) t = false) : ∀ m : Fm, m.ok = true → t ≠ m.d := fun m ho e => by
  have := fm_isF (n := m.dep + 1) ho (Nat.lt_succ_self _)
  rw [← e, h m.dep] at this
  cases this
theorem r_lvs : ∀ (n k : Nat) (t : D), Nice n t → n ≤ 14 → ∃ l, run p (k + n + 1) 237 [t] [] = .ok (.lst l) [] ∧ Lvs n t l := by
  intro n
  induction n with
  | zero =>
    intro k t ht _
    refine ⟨nines, ?_, Lvs.no ?_⟩
    · rw [rn237]
      cases t with
      | tup xs => exact absurd ht.2 (by simp [dpt])
      | lst xs => exact absurd ht.2 (by simp [dpt])
      | _ => have hd := ht.1; first | (simp [data] at hd; done) | simp [b237, ht.1, rep99, nines_undrs]
    · refine no_nt fun xs e => ?_
      subst e
      exact absurd ht.2 (by simp [dpt])
  | succ n ih =>
    intro k t ht hn
    rw [show k + (n + 1) + 1 = (k + n + 1) + 1 from rfl, rn237]
    cases t with
    | tup xs =>
      have hxs : datas xs = true := by have := ht.1; simpa only [data] using this
      cases xs with
      | nil =>
        have e : opEq [] (.tup []) (.tup []) = some true := by rw [opEq_data rfl rfl (by simp [dpt, dpts]) (by simp [dpt, dpts])]; rfl
        exact ⟨nines, by simp [b237, ht.1, rep99, nines_undrs, e], Lvs.no no_nil⟩
      | cons x xs =>
        have e : opEq [] (.tup (x :: xs)) (.tup []) = some false := by
          rw [opEq_data ht.1 rfl (Nat.le_trans ht.2 (by omega)) (by simp [dpt, dpts])]
          simp [eqD, eqDs]
        simp only [datas, Bool.and_eq_true] at hxs
        cases x with
        | str w =>
          rcases xs with _ | ⟨y, _ | ⟨z, _ | ⟨u, r⟩⟩⟩
          · refine ⟨nines, ?_, Lvs.no (no_isF fun N => ?_)⟩
            · cases w1 : w == ("source" : Str) <;> cases w2 : w == ("fixed" : Str) <;> cases w3 : isJ w <;> simp [b237, ht.1, rep99, nines_undrs, e, hxs.1, w1, w2, w3]
            · cases w1 : w == ("source" : Str) <;> cases w2 : w == ("fixed" : Str) <;> cases w3 : isJ w <;> simp [isF, w1, w2, w3]
          · have hy : data y = true := by have := hxs.2; simp only [datas, Bool.and_true] at this; exact this
            cases w1 : w == ("source" : Str) with
            | true =>
              rw [beq_iff_eq] at w1
              subst w1
              cases hi : isNum 3 y with
              | true =>
                cases y with
                | int i =>
                  simp only [isNum, Bool.and_eq_true, decide_eq_true_eq] at hi
                  refine ⟨[.tup [.str "source", .int i]], ?_, ⟨by simp, by have : 1 ≤ 2 ^ (n + 1) := Nat.one_le_two_pow; simp; omega, .inl ⟨.src i, rfl, by simp [Fm.ok, hi.1, hi.2], rfl⟩⟩⟩
                  simp [b237, ht.1, rep99, nines_undrs, e, hxs.1, hy, hi.1, hi.2, ne_src_fix]
                | _ => simp [isNum] at hi
              | false =>
                refine ⟨nines, ?_, Lvs.no (no_isF fun N => by simp [isF, hi])⟩
                cases y with
                | int i =>
                  simp only [isNum] at hi
                  simp [b237, ht.1, rep99, nines_undrs, e, hxs.1, hy, ne_src_fix, hi]
                | _ => have hd := hy; first | (simp [data] at hd; done) | simp [b237, ht.1, rep99, nines_undrs, e, hxs.1, hy, ne_src_fix]
            | false =>
              cases w2 : w == ("fixed" : Str) with
              | true =>
                rw [beq_iff_eq] at w2
                subst w2
                cases y with
                | int i =>
                  refine ⟨[.tup [.str "fixed", .int i]], ?_, ⟨by simp, by have : 1 ≤ 2 ^ (n + 1) := Nat.one_le_two_pow; simp; omega, .inl ⟨.fix i, rfl, rfl, rfl⟩⟩⟩
                  simp [b237, ht.1, rep99, nines_undrs, e, hxs.1, hy]
                | _ =>
                  refine ⟨nines, ?_, Lvs.no (no_isF fun N => by simp [isF, isVal, ne_fix_src])⟩
                  have hd := hy
                  first | (simp [data] at hd; done) | simp [b237, ht.1, rep99, nines_undrs, e, hxs.1, hy]
              | false =>
                refine ⟨nines, ?_, Lvs.no (no_isF fun N => by cases w3 : isJ w <;> simp [isF, w1, w2, w3])⟩
                cases w3 : isJ w <;> simp [b237, ht.1, rep99, nines_undrs, e, hxs.1, w1, w2, w3]
          · have hyz : data y = true ∧ data z = true := by have := hxs.2; simp only [datas, Bool.and_true, Bool.and_eq_true] at this; exact this
            have hdp := ht.2
            simp only [dpt, dpts] at hdp
            obtain ⟨ly, ey, vy⟩ := ih k y ⟨hyz.1, by omega⟩ (by omega)
            obtain ⟨lz, ez, vz⟩ := ih k z ⟨hyz.2, by omega⟩ (by omega)
            have cy : ∀ h, callP (Ek (k + n + 1)) 237 [y] h = .ok (.lst ly) h := fun h => callK ey (by simp [data_undr hyz.1])
            have cz : ∀ h, callP (Ek (k + n + 1)) 237 [z] h = .ok (.lst lz) h := fun h => callK ez (by simp [data_undr hyz.2])
            have pl : (2 : Nat) ^ n ≤ 2 ^ 14 := Nat.pow_le_pow_right (by decide) (by omega)
            have hll : (ly ++ lz).length ≤ lim := by
              have := vy.le
              have := vz.le
              rw [List.length_append]
              exact Nat.le_trans (show _ ≤ 99 * 2 ^ 14 + 99 * 2 ^ 14 by omega) (by decide)
            cases w3 : isJ w with
            | false =>
              refine ⟨nines, ?_, Lvs.no (no_isF fun N => ?_)⟩
              · cases w1 : w == ("source" : Str) <;> cases w2 : w == ("fixed" : Str) <;> simp [b237, ht.1, rep99, nines_undrs, e, hxs.1, w1, w2, w3]
              · cases w1 : w == ("source" : Str) <;> cases w2 : w == ("fixed" : Str) <;> simp [isF, w1, w2, w3]
            | true =>
              obtain ⟨_, w1, w2⟩ := Fm.isJ_ok w3
              refine ⟨ly ++ lz, ?_, ⟨by simp [vy.pu, vz.pu], ?_, ?_⟩⟩
              · simp [b237, ht.1, rep99, nines_undrs, e, hxs.1, w1, w2, w3, arr, arr1, cy, cz, newL_f hll, vy.pu, vz.pu]
              · have := vy.le
                have := vz.le
                rw [List.length_append, Nat.pow_succ]
                omega
              · rcases vy.is with ⟨m1, e1, o1, q1⟩ | ⟨g1, n1⟩
                · rcases vz.is with ⟨m2, e2, o2, q2⟩ | ⟨g2, n2⟩
                  · exact .inl ⟨.join w m1 m2, by rw [e1, e2]; rfl, by simp [Fm.ok, w3, o1, o2], by simp [Fm.lv, q1, q2]⟩
                  · refine .inr ⟨by rw [List.length_append]; omega, fun m ho em => ?_⟩
                    cases m with
                    | join w' a b =>
                      simp only [Fm.d, D.tup.injEq, List.cons.injEq] at em
                      simp only [Fm.ok, Bool.and_eq_true] at ho
                      exact n2 b ho.2 em.2.2.1
                    | _ => simp [Fm.d] at em
                · refine .inr ⟨by rw [List.length_append]; omega, fun m ho em => ?_⟩
                  cases m with
                  | join w' a b =>
                    simp only [Fm.d, D.tup.injEq, List.cons.injEq] at em
                    simp only [Fm.ok, Bool.and_eq_true] at ho
                    exact n1 a ho.1.2 em.2.1
                  | _ => simp [Fm.d] at em
          · have l2 : ¬ ((r.length : Int) + 1 + 1 + 1 + 1 = 2) := by omega
            have l3 : ¬ ((r.length : Int) + 1 + 1 + 1 + 1 = 3) := by omega
            refine ⟨nines, ?_, Lvs.no (no_isF fun N => ?_)⟩
            · cases w1 : w == ("source" : Str) <;> cases w2 : w == ("fixed" : Str) <;> cases w3 : isJ w <;> simp [b237, ht.1, rep99, nines_undrs, e, hxs.1, w1, w2, w3, l2, l3]
            · cases w1 : w == ("source" : Str) <;> cases w2 : w == ("fixed" : Str) <;> cases w3 : isJ w <;> simp [isF, w1, w2, w3]
        | _ => have hd := hxs.1; first | (simp [data] at hd; done) | exact ⟨nines, by simp [b237, ht.1, rep99, nines_undrs, e, hxs.1], Lvs.no (no_ns fun w e => by cases e)⟩
    | _ => have hd := ht.1; first | (simp [data] at hd; done) | exact ⟨nines, by simp [b237, ht.1, rep99, nines_undrs], Lvs.no (no_nt fun xs e => by cases e)⟩
end K16

set_option Elab.async false
set_option linter.all false
set_option maxRecDepth 100000
set_option maxHeartbeats 4000000
/-! K16: the law's answer. -/
namespace K16
open PySem EV
/-! ### made -/
theorem c_made_ok {m : Fm} {k : Nat} {h : Hs} (ho : m.ok = true) (hl : m.lv.length ≤ 9) : callP (Ek (k + 15)) 238 [m.d] h = .ok (ladD m) h := by
  refine callK ?_ (by simp [undr_fm ho])
  rw [rn238]
  have e : makeP (Ek (k + 14)) 18 85 [m.d] [] [] = .ok (ladD m) [] := mk_ok rfl ho hl
  simp [b238, e, undr_lad ho]
theorem c_made_no {t : D} {k : Nat} {h : Hs} (ht : data t = true) (hn : ∀ m : Fm, t = m.d → m.ok = true → m.dep < 10 → 9 < m.lv.length) : callP (Ek (k + 15)) 238 [t] h = .ok .non h := by
  refine callK ?_ (by simp [data_undr ht])
  rw [rn238]
  have e : makeP (Ek (k + 14)) 18 85 [t] [] [] = .exc "BadLadder" none [] := mk_no rfl ht hn
  have c : ∀ L, catchS (Ek (k + 14)) 4 (constC .cnon) (.exc "BadLadder" none L []) = .ret .non [] := fun L => by
    have : caught (Ek (k + 14)) "BadLadder" 4 = some true := by
      unfold caught
      rw [cf4, cs4]
      decide +kernel
    simp only [catchS, this, constC]
  simp [b238, e, c]
/-! ### what a ladder has -/
def srcL : List Fm → List Int
  | [] => []
  | .src v :: r => v :: srcL r
  | _ :: r => srcL r
theorem srcL_len : ∀ a : List Fm, (srcL a).length ≤ a.length
  | [] => by simp [srcL]
  | .src i :: r => by have := srcL_len r; simp only [srcL, List.length_cons]; omega
  | .fix i :: r => by have := srcL_len r; simp only [srcL, List.length_cons]; omega
  | .join _ _ _ :: r => by have := srcL_len r; simp only [srcL, List.length_cons]; omega
theorem srcs_eq (i : Int) : ∀ ls : List Fm, srcs ls i = decide (i ∈ srcL ls)
  | [] => by simp [srcs, srcL]
  | .src j :: r => by
    have := srcs_eq i r
    unfold srcs at this ⊢
    rw [List.any_cons, this, Bool.eq_iff_iff]
    simp [srcL]
    constructor <;> rintro (h | h) <;> first | exact .inl h.symm | exact .inr h
  | .fix j :: r => by
    have := srcs_eq i r
    unfold srcs at this ⊢
    rw [List.any_cons, this, Bool.eq_iff_iff, Bool.or_eq_true, decide_eq_true_iff, decide_eq_true_iff, decide_eq_true_iff]
    simp [srcL]
  | .join _ _ _ :: r => by
    have := srcs_eq i r
    unfold srcs at this ⊢
    rw [List.any_cons, this, Bool.eq_iff_iff, Bool.or_eq_true, decide_eq_true_iff, decide_eq_true_iff, decide_eq_true_iff]
    simp [srcL]
def mx (a b : Int) : Int := if b > a then b else a
theorem widL_fold : ∀ (ls : List Fm) (acc : Int), widL acc ls = ((srcL ls).map (· + 1)).foldl mx acc
  | [], acc => rfl
  | .src i :: r, acc => by
    simp only [widL, srcL, List.map_cons, List.foldl_cons]
    rw [widL_fold r]
    congr 1
    unfold mx
    split <;> split <;> omega
  | .fix i :: r, acc => by simp only [widL, srcL, widL_fold r]
  | .join _ _ _ :: r, acc => by simp only [widL, srcL, widL_fold r]
theorem fold_mx (b : Int) : ∀ (l : List Int) (a : Int), mx (l.foldl mx a) b = l.foldl mx (mx a b)
  | [], a => rfl
  | x :: l, a => by
    simp only [List.foldl_cons]
    rw [fold_mx b l]
    congr 1
    unfold mx
    repeat' split
    all_goals omega
theorem max_law (ls : List Fm) {h : Hs} : callB .max [.lst ((srcL ls ++ [0]).map fun i => D.int (i + 1))] h = .ok (.int (widL 1 ls)) h := by
  have e : (srcL ls ++ [0]).map (fun i => D.int (i + 1)) = ((srcL ls ++ [0]).map (· + 1)).map .int := by simp [List.map_map, Function.comp_def]
  rw [widL_fold, e]
  simp only [callB, lstI_lst, intsOf_ints]
  cases hs : srcL ls with
  | nil => rfl
  | cons i r =>
    simp only [List.map_append, List.map_cons, List.map_nil, List.cons_append, List.foldl_append, List.foldl_cons, List.foldl_nil]
    show R.ok (D.int (mx ((r.map (· + 1)).foldl mx (i + 1)) (0 + 1))) h = _
    rw [fold_mx]
    congr 3
    unfold mx
    split <;> split <;> omega
@[simp] theorem eq_bl {a b : Bool} {h : Hs} : opEq h (.bl a) (.bl b) = some (a == b) := id rfl
theorem opEq_refl {h : Hs} {d : D} (hd : data d = true) (hp : dpt d ≤ 64) : opEq h d d = some true := by rw [opEq_data hd hd hp hp, eqD_refl hd]
theorem c_right {m : Fm} {k : Nat} {h : Hs} (ho : m.ok = true) (hl : m.lv.length ≤ 9) : callP (Ek (k + 15)) 239 [ladD m, m.d, .lst (m.lv.map Fm.d)] h = .ok (.bl true) h := by
  refine callK ?_ (by simp [undr_lad ho, undr_fm ho, undrs_fms (lv_ok ho)])
  rw [rn239]
  have hd : m.dep < 10 := by have := Fm.dep_lv m; omega
  have s1 : ∀ L : Lc, L.length = 7 → lcLoop ⟨m.lv.map Fm.d, []⟩ (lcStep (Ek (k + 14)) [5] (.name 5) (.cons (.cmp .Eq (.sub (.var 5) (.cint 0)) (.cstr "source")) .nil) (.sub (.var 5) (.cint 1)) L) (m.lv.map Fm.d) [] = .ok ((srcL m.lv).map .int) [] := by
    intro L hL
    rw [lc_fm (f := Fm.d) (g := fun l => match l with | .src v => some (.int v) | _ => none) rfl]
    · congr 1
      generalize m.lv = ls
      induction ls with
      | nil => rfl
      | cons a r ih => cases a <;> simp [srcL, ih]
    · intro a ha
      have := Fm.lv_leaf m a ha
      cases a with
      | src i => simp [Fm.d, hL]
      | fix i => simp [Fm.d, hL, ne_fix_src]
      | join w a b => simp [Fm.isLf] at this
  have s2 : ∀ L : Lc, L.length = 7 → lcLoop ⟨m.lv.map Fm.d, []⟩ (lcStep (Ek (k + 14)) [5] (.name 5) (.cons (.cmp .Eq (.sub (.var 5) (.cint 0)) (.cstr "fixed")) .nil) (.blt .int (.cons (.sub (.var 5) (.cint 1)) .nil)) L) (m.lv.map Fm.d) [] = .ok ((fixL m.lv).map .int) [] := by
    intro L hL
    rw [lc_fm (f := Fm.d) (g := fun l => match l with | .fix v => some (.int v) | _ => none) rfl]
    · congr 1
      generalize m.lv = ls
      induction ls with
      | nil => rfl
      | cons a r ih => cases a <;> simp [fixL, ih]
    · intro a ha
      have := Fm.lv_leaf m a ha
      cases a with
      | src i => simp [Fm.d, hL, ne_src_fix]
      | fix i => simp [Fm.d, hL]
      | join w a b => simp [Fm.isLf] at this
  have s3 : ∀ L : Lc, L.length = 7 → lcLoop ⟨(srcL m.lv ++ [0]).map .int, []⟩ (lcStep (Ek (k + 14)) [6] (.name 6) .nil (.bin .Add (.blt .int (.cons (.var 6) .nil)) (.cint 1)) L) ((srcL m.lv ++ [0]).map .int) [] = .ok ((srcL m.lv ++ [0]).map fun i => .int (i + 1)) [] := by
    intro L hL
    refine lc_map rfl _ fun i _ => lcStep_all rfl ?_
    simp [hL]
  have s4 : ∀ (a b c d e : Option D), lcLoop ⟨[0, 1, 2].map .int, []⟩ (lcStep (Ek (k + 14)) [6] (.name 6) .nil (.cmp .Eq (.oin (.var 6) (.var 0)) (.cmp .In (.var 6) (.var 3))) [some (ladD m), a, b, some (.lst ((srcL m.lv).map .int)), c, d, e]) ([0, 1, 2].map .int) [] = .ok ([0, 1, 2].map fun (i : Int) => .bl true) [] := by
    intro a b c d e
    refine lc_map rfl ([0, 1, 2] : List Int) fun i hi => lcStep_all rfl ?_
    have hi3 : 0 ≤ i ∧ i < 3 := by simp at hi; omega
    have q : asBl (spec (Ek (k + 14)) (ladD m) "__contains__" [.int i] []) = .ok (.bl (srcs m.lv i)) [] := in_lad (k := k + 11) ho (by omega) (by omega) hi3
    simp [q, opIn_ints (d := .lst ((srcL m.lv).map .int)) rfl, srcs_eq]
  have l1 := srcL_len m.lv
  have l2 := fixL_len m.lv
  have e1 : opEq [] m.d m.d = some true := opEq_refl (Fm.data_d ho) (by rw [Fm.dpt_d]; omega)
  have kn : m.known = sortI (dedI (fixL m.lv)) := by simp [Fm.known, knownL]
  have e2 : ∀ xs : List Int, opEq [] (.tup (xs.map .int)) (.tup (xs.map .int)) = some true := fun xs => opEq_refl (by simp only [data]; exact datas_map fun _ _ => rfl) (by
    simp only [dpt]
    have := dpts_map (f := D.int) (n := 0) (xs := xs) fun _ _ => by simp [dpt]
    omega)
  have a1 : getA (Ek (k + 14)) (ladD m) "known" [] = .ok (.tup (m.known.map .int)) [] := att_known (k := k + 12) ho (by omega) (by omega) (by omega)
  have a2 : getA (Ek (k + 14)) (ladD m) "width" [] = .ok (.int m.width) [] := att_width (k := k + 12) ho (by omega) (by omega)
  have a3 : asLen (spec (Ek (k + 14)) (ladD m) "__len__" [] []) = .ok (.int m.lv.length) [] := olen_lad (k := k + 13) ho (by omega) (by omega)
  have mxl := max_law m.lv (h := [])
  have s3' : ∀ L : Lc, L.length = 7 → lcLoop ⟨(srcL m.lv).map .int ++ [.int 0], []⟩ (lcStep (Ek (k + 14)) [6] (.name 6) .nil (.bin .Add (.blt .int (.cons (.var 6) .nil)) (.cint 1)) L) ((srcL m.lv).map .int ++ [.int 0]) [] = .ok ((srcL m.lv ++ [0]).map fun i => .int (i + 1)) [] := by
    intro L hL
    have := s3 L hL
    simpa using this
  have bb : callB .all [.lst [.bl true, .bl true, .bl true]] [] = .ok (.bl true) [] := rfl
  simp only [List.map_cons, List.map_nil] at s4
  simp only [List.map_append, List.map_cons, List.map_nil, Int.zero_add] at mxl s3'
  simp [b239, s1, s2, newL_f, lim_of (show (srcL m.lv).length ≤ 200000 by omega), lim_of (show (fixL m.lv).length ≤ 200000 by omega), lim_of (show (srcL m.lv).length + 1 ≤ 200000 by omega), srt_ints (show (fixL m.lv).length < 64 by omega), e1, a1, a2, a3, kn, e2, s3', mxl, Fm.width, s4, bb]
/-! ### the law -/
theorem small24 : small 24 = true := by decide
theorem step {ns : List Int} {a b c d e f x : Option D} {i : Int} (h0 : 0 ≤ i) (h1 : i < 24) : ∃ x2 x3 x4 x5 x6 x7, forStep (Ek 39) (.name 1) b240_1 (.int i) [some (scr ns), a, b, c, d, e, f, x] [] = .next [some (scr ns), some (.int i), x2, x3, x4, x5, x6, x7] [] := by
  rw [forStep_eq rfl]
  have nr := c_nr (ns := ns) (i := 2900 + i) (k := 38) (h := []) (by omega) (by omega)
  obtain ⟨md, mm, em⟩ := sub_mod (xs := [D.int 1, .int 2, .int 3, .int 5, .int 8, .int 9, .int 9, .int 10, .int 11, .int 12]) (i := num ns (2900 + i)) (h := []) (by simp)
  obtain ⟨od, mo, eo⟩ := sub_mod (xs := [D.int 200, .int 40, .int 12]) (i := num ns (2900 + i) / 10) (h := []) (by simp)
  have hm : ∃ n : Nat, md = .int n ∧ 1 ≤ n ∧ n ≤ 12 := by
    simp only [List.mem_cons, List.not_mem_nil, or_false] at mm
    rcases mm with rfl | rfl | rfl | rfl | rfl | rfl | rfl | rfl | rfl | rfl
    · exact ⟨1, rfl, by decide⟩
    · exact ⟨2, rfl, by decide⟩
    · exact ⟨3, rfl, by decide⟩
    · exact ⟨5, rfl, by decide⟩
    · exact ⟨8, rfl, by decide⟩
    · exact ⟨9, rfl, by decide⟩
    · exact ⟨9, rfl, by decide⟩
    · exact ⟨10, rfl, by decide⟩
    · exact ⟨11, rfl, by decide⟩
    · exact ⟨12, rfl, by decide⟩
  have ho : ∃ o : Int, od = .int o ∧ 0 < o ∧ o < 500 := by
    simp only [List.mem_cons, List.not_mem_nil, or_false] at mo
    rcases mo with rfl | rfl | rfl
    · exact ⟨200, rfl, by decide⟩
    · exact ⟨40, rfl, by decide⟩
    · exact ⟨12, rfl, by decide⟩
  obtain ⟨n, rfl, n1, n2⟩ := hm
  obtain ⟨o, rfl, o1, o2⟩ := ho
  have em' : opSub (.tup [D.int 1, .int 2, .int 3, .int 5, .int 8, .int 9, .int 9, .int 10, .int 11, .int 12]) (.int (num ns (2900 + i) % 10)) [] = .ok (.int n) [] := em
  have eo' : opSub (.tup [D.int 200, .int 40, .int 12]) (.int (num ns (2900 + i) / 10 % 3)) [] = .ok (.int o) [] := eo
  obtain ⟨t, nt, et⟩ := r_tree (ns := ns) o1 o2 n (36 - n) (110 * i) n1 n2 (by omega) (by omega)
  have ct : callP (Ek 39) 236 [scr ns, .int (110 * i), .int n, .int o] [] = .ok t [] := by
    rw [show 39 = 36 - n + n + 3 by omega]
    exact callK et (by simp)
  have nt' : Nice 13 t := nt.mono (by omega)
  obtain ⟨l, el, vl⟩ := r_lvs 13 25 t nt' (by decide)
  have cl : callP (Ek 39) 237 [t] [] = .ok (.lst l) [] := callK el (by simp [data_undr nt'.1])
  have pre : ∀ (fd : D), callP (Ek 39) 238 [t] [] = .ok fd [] → ∀ r, exSs (Ek 39) (.cons (.ife (.cmp .NotEq (.cmp .Is (.var 6) .cnon) (.cmp .Gt (.blt .len (.cons (.var 7) .nil)) (.cint 9))) (.cons (.ret (.cbl false))
    .nil) .nil)
    (.cons (.ife (.and (.cmp .IsNot (.var 6) .cnon) (.not (.call 239 115 (.cons (.var 6) (.cons (.var 3) (.cons (.var 7) .nil))) .nil))) (.cons (.ret (.cbl false))
    .nil) .nil)
    .nil)) [some (scr ns), some (.int i), some (.int (num ns (2900 + i))), some t, some (.int n), some (.int o), some fd, some (.lst l)] [] = r → exSs (Ek 39) b240_1 [some (scr ns), some (.int i), b, c, d, e, f, x] [] = r := by
    intro fd hf r hr
    rw [← hr]
    have n10 : newT [D.int 1, .int 2, .int 3, .int 5, .int 8, .int 9, .int 9, .int 10, .int 11, .int 12] [] = .ok (.tup [D.int 1, .int 2, .int 3, .int 5, .int 8, .int 9, .int 9, .int 10, .int 11, .int 12]) [] := rfl
    simp [b240_1, arr, arr1, nr, n10, em', eo', mul_l, mod_int, fdiv_int, ct, hf, cl]
  rcases vl.is with ⟨m, rfl, hm, rfl⟩ | ⟨gl, nf⟩
  · by_cases h9 : m.lv.length ≤ 9
    · have cm := c_made_ok (k := 24) (h := []) hm h9
      have cr := c_right (k := 24) (h := []) hm h9
      have g9 : ¬ ((9 : Int) < (m.lv.length : Int)) := by omega
      refine ⟨some (.int (num ns (2900 + i))), some m.d, some (.int n), some (.int o), some (ladD m), some (.lst (m.lv.map Fm.d)), pre _ cm _ ?_⟩
      have nn : isNon (ladD m) = false := rfl
      simp [arr, arr1, nn, g9, cr]
    · have cm := c_made_no (k := 24) (h := []) (Fm.data_d hm) fun m' e1 e2 e3 => by
        have := Fm.d_inj e1
        subst this
        omega
      have g9 : ((9 : Int) < (m.lv.length : Int)) := by omega
      refine ⟨some (.int (num ns (2900 + i))), some m.d, some (.int n), some (.int o), some .non, some (.lst (m.lv.map Fm.d)), pre _ cm _ ?_⟩
      simp [arr, arr1, g9]
  · have cm := c_made_no (k := 24) (h := []) nt'.1 fun m' e1 e2 e3 => absurd e1 (nf m' e2)
    have g9 : ((9 : Int) < (l.length : Int)) := by omega
    refine ⟨some (.int (num ns (2900 + i))), some t, some (.int n), some (.int o), some .non, some (.lst l), pre _ cm _ ?_⟩
    simp [arr, arr1, g9]
theorem rangeD_mem : ∀ (n : Nat) (lo : Int) (d : D), d ∈ rangeD lo n → ∃ i, d = .int i ∧ lo ≤ i ∧ i < lo + n
  | 0, lo, d, h => by simp [rangeD] at h
  | n + 1, lo, d, h => by
    rcases List.mem_cons.mp h with rfl | h
    · exact ⟨lo, rfl, by omega, by omega⟩
    · obtain ⟨i, e, h1, h2⟩ := rangeD_mem n (lo + 1) d h
      exact ⟨i, e, by omega, by omega⟩
theorem answer (ns : List Int) : run p 40 240 [.lst (ns.map .int)] [] = .ok (.bl true) [] := by
  rw [rn240]
  obtain ⟨L', h', e, x, a, b, c, d, f, z, e2, e3, _⟩ := for_next (s := ⟨rangeD 0 24, []⟩) (step := forStep (Ek 39) (.name 1) b240_1)
    (fun r L h => ∃ a b c d e f x, L = [some (scr ns), a, b, c, d, e, f, x] ∧ h = [] ∧ ∀ y ∈ r, ∃ i, y = D.int i ∧ 0 ≤ i ∧ i < 24) (fun r L h _ => rfl) (fun y r L h I => by
      obtain ⟨a, b, c, d, e, f, x, rfl, rfl, I⟩ := I
      obtain ⟨i, rfl, i0, i1⟩ := I y (List.mem_cons_self ..)
      obtain ⟨x2, x3, x4, x5, x6, x7, st⟩ := step (ns := ns) (a := a) (b := b) (c := c) (d := d) (e := e) (f := f) (x := x) i0 i1
      exact ⟨_, _, .inl st, some (.int i), x2, x3, x4, x5, x6, x7, rfl, rfl, fun y hy => I y (List.mem_cons_of_mem _ hy)⟩)
    (rangeD 0 24) [some (scr ns), none, none, none, none, none, none, none] [] ⟨none, none, none, none, none, none, none, rfl, rfl, fun y hy => by
      obtain ⟨i, e, h1, h2⟩ := rangeD_mem 24 0 y hy
      exact ⟨i, e, h1, by omega⟩⟩
  subst e2 e3
  simp [b240, rng1 small24, e]
end K16

set_option Elab.async false
set_option linter.all false
set_option maxRecDepth 100000
set_option maxHeartbeats 0
/-! K16: the head. -/
namespace K16
open PySem PySem.Spec PyProof.Rows L2 EV
def top (i : Nat) : Stmt := PySem.Challenge.pw_prefilled_k16_whole_forms.main.body.getD i (.Pass ⟨0, 0, 0, 0⟩)
def d0 : DefE := ⟨(gA "is_value"), "is_value", "is_value", defArgs (top 8), defBody (top 8), defScope (top 8), [], []⟩
def N0 : List PySem.Str := (["thing"] : List PySem.Str)
def ps0 : List PySem.Str := (["thing"] : List PySem.Str)
def d1 : DefE := ⟨(gA "is_number"), "is_number", "is_number", defArgs (top 9), defBody (top 9), defScope (top 9), [], []⟩
def N1 : List PySem.Str := (["thing", "many"] : List PySem.Str)
def ps1 : List PySem.Str := (["thing", "many"] : List PySem.Str)
def d2 : DefE := ⟨(gA "are_contents"), "are_contents", "are_contents", defArgs (top 10), defBody (top 10), defScope (top 10), [], []⟩
def N2 : List PySem.Str := (["thing", "width", "one"] : List PySem.Str)
def ps2 : List PySem.Str := (["thing", "width"] : List PySem.Str)
def d3 : DefE := ⟨(gA "is_order"), "is_order", "is_order", defArgs (top 11), defBody (top 11), defScope (top 11), [], []⟩
def N3 : List PySem.Str := (["order", "contents", "telling", "at", "one"] : List PySem.Str)
def ps3 : List PySem.Str := (["order", "contents"] : List PySem.Str)
def d4 : DefE := ⟨(gA "is_scene"), "is_scene", "is_scene", defArgs (top 12), defBody (top 12), defScope (top 12), [], []⟩
def N4 : List PySem.Str := (["scene", "width", "many"] : List PySem.Str)
def ps4 : List PySem.Str := (["scene", "width"] : List PySem.Str)
def d5 : DefE := ⟨(gA "next_name"), "next_name", "next_name", defArgs (top 13), defBody (top 13), defScope (top 13), [], []⟩
def N5 : List PySem.Str := (["known", "used", "name"] : List PySem.Str)
def ps5 : List PySem.Str := (["known", "used"] : List PySem.Str)
def d8 : DefE := ⟨(gA "contents_from"), "contents_from", "contents_from", defArgs (top 14), defBody (top 14), defScope (top 14), [], []⟩
def N8 : List PySem.Str := (["width", "known", "used", "fresh", "found", "one", "more", "rest", "some"] : List PySem.Str)
def ps8 : List PySem.Str := (["width", "known", "used"] : List PySem.Str)
def d9 : DefE := ⟨(gA "orders_of"), "orders_of", "orders_of", defArgs (top 15), defBody (top 15), defScope (top 15), [], []⟩
def N9 : List PySem.Str := (["sources", "found", "at", "one", "rest"] : List PySem.Str)
def ps9 : List PySem.Str := (["sources"] : List PySem.Str)
def d10 : DefE := ⟨(gA "telling"), "telling", "telling", defArgs (top 16), defBody (top 16), defScope (top 16), [], []⟩
def N10 : List PySem.Str := (["contents", "at", "one"] : List PySem.Str)
def ps10 : List PySem.Str := (["contents"] : List PySem.Str)
def d11 : DefE := ⟨(gA "scenes_of"), "scenes_of", "scenes_of", defArgs (top 17), defBody (top 17), defScope (top 17), [], []⟩
def N11 : List PySem.Str := (["width", "known", "every", "found", "many", "contents", "sources", "order"] : List PySem.Str)
def ps11 : List PySem.Str := (["width", "known"] : List PySem.Str)
def d15 : DefE := ⟨(gA "leaves_of"), "leaves_of", "leaves_of", defArgs (top 21), defBody (top 21), defScope (top 21), [], []⟩
def N15 : List PySem.Str := (["form"] : List PySem.Str)
def ps15 : List PySem.Str := (["form"] : List PySem.Str)
def d16 : DefE := ⟨(gA "is_form"), "is_form", "is_form", defArgs (top 22), defBody (top 22), defScope (top 22), [.int 0], []⟩
def N16 : List PySem.Str := (["form", "deep"] : List PySem.Str)
def ps16 : List PySem.Str := (["form", "deep"] : List PySem.Str)
def d17 : DefE := ⟨(gA "tells"), "tells", "tells", defArgs (top 23), defBody (top 23), defScope (top 23), [], []⟩
def N17 : List PySem.Str := (["form", "contents", "order", "at", "word", "left", "right"] : List PySem.Str)
def ps17 : List PySem.Str := (["form", "contents", "order"] : List PySem.Str)
def d18 : DefE := ⟨(gA "value_of"), "value_of", "value_of", defArgs (top 24), defBody (top 24), defScope (top 24), [], []⟩
def N18 : List PySem.Str := (["form", "contents", "order", "found"] : List PySem.Str)
def ps18 : List PySem.Str := (["form", "contents", "order"] : List PySem.Str)
def d19 : DefE := ⟨(gA "width_of"), "width_of", "width_of", defArgs (top 25), defBody (top 25), defScope (top 25), [], []⟩
def N19 : List PySem.Str := (["form", "widest", "leaf"] : List PySem.Str)
def ps19 : List PySem.Str := (["form"] : List PySem.Str)
def d20 : DefE := ⟨(gA "known_of"), "known_of", "known_of", defArgs (top 26), defBody (top 26), defScope (top 26), [], []⟩
def N20 : List PySem.Str := (["forms", "found", "form", "leaf", "one"] : List PySem.Str)
def ps20 : List PySem.Str := (["forms"] : List PySem.Str)
def d21 : DefE := ⟨(gA "joint"), "joint", "joint", defArgs (top 27), defBody (top 27), defScope (top 27), [], []⟩
def N21 : List PySem.Str := (["one", "other"] : List PySem.Str)
def ps21 : List PySem.Str := (["one", "other"] : List PySem.Str)
def d22 : DefE := ⟨(gA "is_within"), "is_within", "is_within", defArgs (top 28), defBody (top 28), defScope (top 28), [], []⟩
def N22 : List PySem.Str := (["one", "other", "contents", "order", "value"] : List PySem.Str)
def ps22 : List PySem.Str := (["one", "other"] : List PySem.Str)
def d23 : DefE := ⟨(gA "form_of"), "form_of", "form_of", defArgs (top 29), defBody (top 29), defScope (top 29), [], []⟩
def N23 : List PySem.Str := (["thing"] : List PySem.Str)
def ps23 : List PySem.Str := (["thing"] : List PySem.Str)
def d129 : DefE := ⟨(mA "Ladder" "__init__"), "__init__", "Ladder.__init__", defArgs (inClass (top 30) 0), defBody (inClass (top 30) 0), defScope (inClass (top 30) 0), [], []⟩
def N129 : List PySem.Str := (["self", "form"] : List PySem.Str)
def ps129 : List PySem.Str := (["self", "form"] : List PySem.Str)
def d133 : DefE := ⟨(pA "Ladder" "width"), "width", "Ladder.width", defArgs (inClass (top 30) 4), defBody (inClass (top 30) 4), defScope (inClass (top 30) 4), [], []⟩
def N133 : List PySem.Str := (["self"] : List PySem.Str)
def ps133 : List PySem.Str := (["self"] : List PySem.Str)
def d134 : DefE := ⟨(pA "Ladder" "known"), "known", "Ladder.known", defArgs (inClass (top 30) 5), defBody (inClass (top 30) 5), defScope (inClass (top 30) 5), [], []⟩
def N134 : List PySem.Str := (["self"] : List PySem.Str)
def ps134 : List PySem.Str := (["self"] : List PySem.Str)
def d135 : DefE := ⟨(mA "Ladder" "__eq__"), "__eq__", "Ladder.__eq__", defArgs (inClass (top 30) 6), defBody (inClass (top 30) 6), defScope (inClass (top 30) 6), [], []⟩
def N135 : List PySem.Str := (["self", "other"] : List PySem.Str)
def ps135 : List PySem.Str := (["self", "other"] : List PySem.Str)
def d136 : DefE := ⟨(mA "Ladder" "__len__"), "__len__", "Ladder.__len__", defArgs (inClass (top 30) 7), defBody (inClass (top 30) 7), defScope (inClass (top 30) 7), [], []⟩
def N136 : List PySem.Str := (["self"] : List PySem.Str)
def ps136 : List PySem.Str := (["self"] : List PySem.Str)
def d137 : DefE := ⟨(mA "Ladder" "__bool__"), "__bool__", "Ladder.__bool__", defArgs (inClass (top 30) 8), defBody (inClass (top 30) 8), defScope (inClass (top 30) 8), [], []⟩
def N137 : List PySem.Str := (["self", "scene"] : List PySem.Str)
def ps137 : List PySem.Str := (["self"] : List PySem.Str)
def d138 : DefE := ⟨(mA "Ladder" "__contains__"), "__contains__", "Ladder.__contains__", defArgs (inClass (top 30) 9), defBody (inClass (top 30) 9), defScope (inClass (top 30) 9), [], []⟩
def N138 : List PySem.Str := (["self", "source"] : List PySem.Str)
def ps138 : List PySem.Str := (["self", "source"] : List PySem.Str)
def d139 : DefE := ⟨(mA "Ladder" "__call__"), "__call__", "Ladder.__call__", defArgs (inClass (top 30) 10), defBody (inClass (top 30) 10), defScope (inClass (top 30) 10), [.non], []⟩
def N139 : List PySem.Str := (["self", "contents", "order"] : List PySem.Str)
def ps139 : List PySem.Str := (["self", "contents", "order"] : List PySem.Str)
def d140 : DefE := ⟨(mA "Ladder" "__or__"), "__or__", "Ladder.__or__", defArgs (inClass (top 30) 11), defBody (inClass (top 30) 11), defScope (inClass (top 30) 11), [], []⟩
def N140 : List PySem.Str := (["self", "other"] : List PySem.Str)
def ps140 : List PySem.Str := (["self", "other"] : List PySem.Str)
def d141 : DefE := ⟨(mA "Ladder" "__ror__"), "__ror__", "Ladder.__ror__", defArgs (inClass (top 30) 12), defBody (inClass (top 30) 12), defScope (inClass (top 30) 12), [], []⟩
def N141 : List PySem.Str := (["self", "other"] : List PySem.Str)
def ps141 : List PySem.Str := (["self", "other"] : List PySem.Str)
def d142 : DefE := ⟨(mA "Ladder" "__and__"), "__and__", "Ladder.__and__", defArgs (inClass (top 30) 13), defBody (inClass (top 30) 13), defScope (inClass (top 30) 13), [], []⟩
def N142 : List PySem.Str := (["self", "other"] : List PySem.Str)
def ps142 : List PySem.Str := (["self", "other"] : List PySem.Str)
def d143 : DefE := ⟨(mA "Ladder" "__rand__"), "__rand__", "Ladder.__rand__", defArgs (inClass (top 30) 14), defBody (inClass (top 30) 14), defScope (inClass (top 30) 14), [], []⟩
def N143 : List PySem.Str := (["self", "other"] : List PySem.Str)
def ps143 : List PySem.Str := (["self", "other"] : List PySem.Str)
def d144 : DefE := ⟨(mA "Ladder" "__xor__"), "__xor__", "Ladder.__xor__", defArgs (inClass (top 30) 15), defBody (inClass (top 30) 15), defScope (inClass (top 30) 15), [], []⟩
def N144 : List PySem.Str := (["self", "other"] : List PySem.Str)
def ps144 : List PySem.Str := (["self", "other"] : List PySem.Str)
def d145 : DefE := ⟨(mA "Ladder" "__rxor__"), "__rxor__", "Ladder.__rxor__", defArgs (inClass (top 30) 16), defBody (inClass (top 30) 16), defScope (inClass (top 30) 16), [], []⟩
def N145 : List PySem.Str := (["self", "other"] : List PySem.Str)
def ps145 : List PySem.Str := (["self", "other"] : List PySem.Str)
def d146 : DefE := ⟨(mA "Ladder" "__sub__"), "__sub__", "Ladder.__sub__", defArgs (inClass (top 30) 17), defBody (inClass (top 30) 17), defScope (inClass (top 30) 17), [], []⟩
def N146 : List PySem.Str := (["self", "other"] : List PySem.Str)
def ps146 : List PySem.Str := (["self", "other"] : List PySem.Str)
def d147 : DefE := ⟨(mA "Ladder" "__rsub__"), "__rsub__", "Ladder.__rsub__", defArgs (inClass (top 30) 18), defBody (inClass (top 30) 18), defScope (inClass (top 30) 18), [], []⟩
def N147 : List PySem.Str := (["self", "other"] : List PySem.Str)
def ps147 : List PySem.Str := (["self", "other"] : List PySem.Str)
def d148 : DefE := ⟨(mA "Ladder" "__rshift__"), "__rshift__", "Ladder.__rshift__", defArgs (inClass (top 30) 19), defBody (inClass (top 30) 19), defScope (inClass (top 30) 19), [], []⟩
def N148 : List PySem.Str := (["self", "other"] : List PySem.Str)
def ps148 : List PySem.Str := (["self", "other"] : List PySem.Str)
def d149 : DefE := ⟨(mA "Ladder" "__rrshift__"), "__rrshift__", "Ladder.__rrshift__", defArgs (inClass (top 30) 20), defBody (inClass (top 30) 20), defScope (inClass (top 30) 20), [], []⟩
def N149 : List PySem.Str := (["self", "other"] : List PySem.Str)
def ps149 : List PySem.Str := (["self", "other"] : List PySem.Str)
def d150 : DefE := ⟨(mA "Ladder" "__le__"), "__le__", "Ladder.__le__", defArgs (inClass (top 30) 21), defBody (inClass (top 30) 21), defScope (inClass (top 30) 21), [], []⟩
def N150 : List PySem.Str := (["self", "other"] : List PySem.Str)
def ps150 : List PySem.Str := (["self", "other"] : List PySem.Str)
def d151 : DefE := ⟨(mA "Ladder" "__lt__"), "__lt__", "Ladder.__lt__", defArgs (inClass (top 30) 22), defBody (inClass (top 30) 22), defScope (inClass (top 30) 22), [], []⟩
def N151 : List PySem.Str := (["self", "other"] : List PySem.Str)
def ps151 : List PySem.Str := (["self", "other"] : List PySem.Str)
def d152 : DefE := ⟨(mA "Ladder" "__ge__"), "__ge__", "Ladder.__ge__", defArgs (inClass (top 30) 23), defBody (inClass (top 30) 23), defScope (inClass (top 30) 23), [], []⟩
def N152 : List PySem.Str := (["self", "other"] : List PySem.Str)
def ps152 : List PySem.Str := (["self", "other"] : List PySem.Str)
def d153 : DefE := ⟨(mA "Ladder" "__gt__"), "__gt__", "Ladder.__gt__", defArgs (inClass (top 30) 24), defBody (inClass (top 30) 24), defScope (inClass (top 30) 24), [], []⟩
def N153 : List PySem.Str := (["self", "other"] : List PySem.Str)
def ps153 : List PySem.Str := (["self", "other"] : List PySem.Str)
def d233 : DefE := ⟨(gA "_law_number"), "_law_number", "_law_number", defArgs (top 32), defBody (top 32), defScope (top 32), [], []⟩
def N233 : List PySem.Str := (["_law_script", "_law_index", "_law_cells", "_law_cell", "_law_total", "_law_blend", "_law_low", "_law_high"] : List PySem.Str)
def ps233 : List PySem.Str := (["_law_script", "_law_index"] : List PySem.Str)
def d234 : DefE := ⟨(gA "_law_pick"), "_law_pick", "_law_pick", defArgs (top 33), defBody (top 33), defScope (top 33), [], []⟩
def N234 : List PySem.Str := (["_law_script", "_law_at", "_law_good", "_law_bad", "_law_odds", "_law_seed"] : List PySem.Str)
def ps234 : List PySem.Str := (["_law_script", "_law_at", "_law_good", "_law_bad", "_law_odds"] : List PySem.Str)
def d235 : DefE := ⟨(gA "_law_leaf"), "_law_leaf", "_law_leaf", defArgs (top 34), defBody (top 34), defScope (top 34), [], []⟩
def N235 : List PySem.Str := (["_law_script", "_law_at", "_law_odds", "_law_word", "_law_good", "_law_number_here", "_law_seed"] : List PySem.Str)
def ps235 : List PySem.Str := (["_law_script", "_law_at", "_law_odds"] : List PySem.Str)
def d236 : DefE := ⟨(gA "_law_tree"), "_law_tree", "_law_tree", defArgs (top 35), defBody (top 35), defScope (top 35), [], []⟩
def N236 : List PySem.Str := (["_law_script", "_law_at", "_law_size", "_law_odds", "_law_seed", "_law_bad", "_law_word", "_law_left", "_law_parts"] : List PySem.Str)
def ps236 : List PySem.Str := (["_law_script", "_law_at", "_law_size", "_law_odds"] : List PySem.Str)
def d237 : DefE := ⟨(gA "_law_leaves"), "_law_leaves", "_law_leaves", defArgs (top 36), defBody (top 36), defScope (top 36), [], []⟩
def N237 : List PySem.Str := (["_law_form"] : List PySem.Str)
def ps237 : List PySem.Str := (["_law_form"] : List PySem.Str)
def d238 : DefE := ⟨(gA "_law_made"), "_law_made", "_law_made", defArgs (top 37), defBody (top 37), defScope (top 37), [], []⟩
def N238 : List PySem.Str := (["_law_form"] : List PySem.Str)
def ps238 : List PySem.Str := (["_law_form"] : List PySem.Str)
def d239 : DefE := ⟨(gA "_law_ladder_right"), "_law_ladder_right", "_law_ladder_right", defArgs (top 38), defBody (top 38), defScope (top 38), [], []⟩
def N239 : List PySem.Str := (["_law_found", "_law_form", "_law_leaves_here", "_law_mine", "_law_known", "_law_leaf_here", "_law_source"] : List PySem.Str)
def ps239 : List PySem.Str := (["_law_found", "_law_form", "_law_leaves_here"] : List PySem.Str)
def d240 : DefE := ⟨(gA "law"), "law", "law", defArgs (top 39), defBody (top 39), defScope (top 39), [], []⟩
def N240 : List PySem.Str := (["_law_script", "_law_turn", "_law_seed", "_law_form", "_law_many", "_law_odds", "_law_found", "_law_leaves_here"] : List PySem.Str)
def ps240 : List PySem.Str := (["_law_script"] : List PySem.Str)
def fn : List DefE := [d0, d1, d2, d3, d4, d5, d8, d9, d10, d11, d15, d16, d17, d18, d19, d20, d21, d22, d23, d129, d133, d134, d135, d136, d137, d138, d139, d140, d141, d142, d143, d144, d145, d146, d147, d148, d149, d150, d151, d152, d153, d233, d234, d235, d236, d237, d238, d239, d240]
def gn : List PySem.Str := ((["is_value", "is_number", "are_contents", "is_order", "is_scene", "next_name", "contents_from", "orders_of", "telling", "scenes_of", "leaves_of", "is_form"] : List PySem.Str) ++ (["tells", "value_of", "width_of", "known_of", "joint", "is_within", "form_of", "_law_number", "_law_pick", "_law_leaf", "_law_tree", "_law_leaves"] : List PySem.Str) ++ (["_law_made", "_law_ladder_right", "law", "FillError", "BadSource", "BadValue", "BadScene", "BadLadder", "Ladder"] : List PySem.Str))
def gl : List (PySem.Str × D) := [("WIDEST", .int 3), ("MOST", .int 9), ("JOINS", .tup [.str "first", .str "both", .str "alone", .str "except", .str "later"])]
def mad : List (Nat × (PySem.W.Frag → Addr)) := [(133, (pA "Ladder" "width")), (134, (pA "Ladder" "known")), (135, (mA "Ladder" "__eq__")), (136, (mA "Ladder" "__len__")), (137, (mA "Ladder" "__bool__")), (138, (mA "Ladder" "__contains__")), (140, (mA "Ladder" "__or__")), (141, (mA "Ladder" "__ror__")), (142, (mA "Ladder" "__and__")), (143, (mA "Ladder" "__rand__")), (144, (mA "Ladder" "__xor__")), (145, (mA "Ladder" "__rxor__")), (146, (mA "Ladder" "__sub__")), (147, (mA "Ladder" "__rsub__")), (148, (mA "Ladder" "__rshift__")), (149, (mA "Ladder" "__rrshift__")), (150, (mA "Ladder" "__le__")), (151, (mA "Ladder" "__lt__")), (152, (mA "Ladder" "__ge__")), (153, (mA "Ladder" "__gt__"))]
def iad : List (Nat × (PySem.W.Frag → Addr)) := [(129, (mA "Ladder" "__init__"))]
def ck : Chk := ⟨gl, ((["all", "any", "bool", "dict", "enumerate", "int", "isinstance", "len", "list", "max", "min", "range"] : List PySem.Str) ++ (["set", "sorted", "str", "sum", "tuple", "zip", "BadPlan", "BadState", "BadField", "BadDeed", "TooLarge", "BadWish"] : List PySem.Str) ++ (["BadForm", "NotAsked", "Gone", "NothingDone", "BadText", "Paper", "Run", "Plan", "Kept", "Lost", "Same", "Parted"] : List PySem.Str) ++ (["Fewest", "Steady", "Unsteady", "Enough", "Desk", "Form", "Cell"] : List PySem.Str)), [], PF.cs, ab, mad, iad⟩
def T : Tab := ⟨(([some ("WIDEST" : PySem.Str), some ("MOST" : PySem.Str), some ("JOINS" : PySem.Str), none, none, none, none, none, none, none] : List (Option PySem.Str))), (([some ("is_value" : PySem.Str), some ("is_number" : PySem.Str), some ("are_contents" : PySem.Str), some ("is_order" : PySem.Str), some ("is_scene" : PySem.Str), some ("next_name" : PySem.Str), none, none, some ("contents_from" : PySem.Str), some ("orders_of" : PySem.Str), some ("telling" : PySem.Str), some ("scenes_of" : PySem.Str), none, none, none, some ("leaves_of" : PySem.Str), some ("is_form" : PySem.Str), some ("tells" : PySem.Str), some ("value_of" : PySem.Str), some ("width_of" : PySem.Str)] : List (Option PySem.Str)) ++ ([some ("known_of" : PySem.Str), some ("joint" : PySem.Str), some ("is_within" : PySem.Str), some ("form_of" : PySem.Str), none, none, none, none, none, none, none, none, none, none, none, none, none, none, none, none] : List (Option PySem.Str)) ++ ([none, none, none, none, none, none, none, none, none, none, none, none, none, none, none, none, none, none, none, none] : List (Option PySem.Str)) ++ ([none, none, none, none, none, none, none, none, none, none, none, none, none, none, none, none, none, none, none, none] : List (Option PySem.Str)) ++ ([none, none, none, none, none, none, none, none, none, none, none, none, none, none, none, none, none, none, none, none] : List (Option PySem.Str)) ++ ([none, none, none, none, none, none, none, none, none, none, none, none, none, none, none, none, none, none, none, none] : List (Option PySem.Str)) ++ ([none, none, none, none, none, none, none, none, none, none, none, none, none, none, none, none, none, none, none, none] : List (Option PySem.Str)) ++ ([none, none, none, none, none, none, none, none, none, none, none, none, none, none, none, none, none, none, none, none] : List (Option PySem.Str)) ++ ([none, none, none, none, none, none, none, none, none, none, none, none, none, none, none, none, none, none, none, none] : List (Option PySem.Str)) ++ ([none, none, none, none, none, none, none, none, none, none, none, none, none, none, none, none, none, none, none, none] : List (Option PySem.Str)) ++ ([none, none, none, none, none, none, none, none, none, none, none, none, none, none, none, none, none, none, none, none] : List (Option PySem.Str)) ++ ([none, none, none, none, none, none, none, none, none, none, none, none, none, some ("_law_number" : PySem.Str), some ("_law_pick" : PySem.Str), some ("_law_leaf" : PySem.Str), some ("_law_tree" : PySem.Str), some ("_law_leaves" : PySem.Str), some ("_law_made" : PySem.Str), some ("_law_ladder_right" : PySem.Str)] : List (Option PySem.Str)) ++ ([some ("law" : PySem.Str)] : List (Option PySem.Str))), [(0, 1, ([] : List PySem.Str), [.pos 0]), (1, 2, ([] : List PySem.Str), [.pos 0, .pos 1]), (3, 2, ([] : List PySem.Str), [.pos 0, .pos 1]), (2, 2, ([] : List PySem.Str), [.pos 0, .pos 1]), (5, 2, ([] : List PySem.Str), [.pos 0, .pos 1]), (8, 3, ([] : List PySem.Str), [.pos 0, .pos 1, .pos 2]), (9, 1, ([] : List PySem.Str), [.pos 0]), (10, 1, ([] : List PySem.Str), [.pos 0]), (11, 2, ([] : List PySem.Str), [.pos 0, .pos 1]), (12, 1, ([] : List PySem.Str), [.pos 0]), (7, 2, ([] : List PySem.Str), [.pos 0, .pos 1]), (6, 2, ([] : List PySem.Str), [.pos 0, .pos 1]), (4, 2, ([] : List PySem.Str), [.pos 0, .pos 1]), (15, 1, ([] : List PySem.Str), [.pos 0]), (16, 2, ([] : List PySem.Str), [.pos 0, .pos 1]), (17, 3, ([] : List PySem.Str), [.pos 0, .pos 1, .pos 2]), (20, 1, ([] : List PySem.Str), [.pos 0]), (19, 1, ([] : List PySem.Str), [.pos 0]), (21, 2, ([] : List PySem.Str), [.pos 0, .pos 1]), (18, 3, ([] : List PySem.Str), [.pos 0, .pos 1, .pos 2]), (30, 3, ([] : List PySem.Str), [.pos 0, .pos 1, .pos 2]), (31, 2, ([] : List PySem.Str), [.pos 0, .pos 1]), (28, 1, ([] : List PySem.Str), [.pos 0]), (34, 2, ([] : List PySem.Str), [.pos 0, .pos 1]), (32, 2, ([] : List PySem.Str), [.pos 0, .pos 1]), (37, 2, ([] : List PySem.Str), [.pos 0, .pos 1]), (41, 2, ([] : List PySem.Str), [.pos 0, .pos 1]), (40, 2, ([] : List PySem.Str), [.pos 0, .pos 1]), (42, 3, ([] : List PySem.Str), [.pos 0, .pos 1, .pos 2]), (39, 3, ([] : List PySem.Str), [.pos 0, .pos 1, .pos 2]), (45, 4, ([] : List PySem.Str), [.pos 0, .pos 1, .pos 2, .pos 3]), (44, 2, ([] : List PySem.Str), [.pos 0, .pos 1]), (47, 3, ([] : List PySem.Str), [.pos 0, .pos 1, .pos 2]), (51, 3, ([] : List PySem.Str), [.pos 0, .pos 1, .pos 2]), (50, 4, ([] : List PySem.Str), [.pos 0, .pos 1, .pos 2, .pos 3]), (33, 1, ([] : List PySem.Str), [.pos 0]), (49, 3, ([] : List PySem.Str), [.pos 0, .pos 1, .pos 2]), (163, 2, ([] : List PySem.Str), [.pos 0, .pos 1]), (54, 2, ([] : List PySem.Str), [.pos 0, .pos 1]), (53, 3, ([] : List PySem.Str), [.pos 0, .pos 1, .pos 2]), (159, 2, ([] : List PySem.Str), [.pos 0, .pos 1]), (52, 2, ([] : List PySem.Str), [.pos 0, .pos 1]), (29, 2, ([] : List PySem.Str), [.pos 0, .pos 1]), (59, 1, ([] : List PySem.Str), [.pos 0]), (61, 3, ([] : List PySem.Str), [.pos 0, .pos 1, .pos 2]), (60, 2, ([] : List PySem.Str), [.pos 0, .pos 1]), (62, 3, ([] : List PySem.Str), [.pos 0, .pos 1, .pos 2]), (58, 2, ([] : List PySem.Str), [.pos 0, .pos 1]), (172, 2, ([] : List PySem.Str), [.pos 0, .pos 1]), (65, 3, ([] : List PySem.Str), [.pos 0, .pos 1, .pos 2]), (64, 2, ([] : List PySem.Str), [.pos 0, .pos 1]), (168, 2, ([] : List PySem.Str), [.pos 0, .pos 1]), (63, 2, ([] : List PySem.Str), [.pos 0, .pos 1]), (57, 2, ([] : List PySem.Str), [.pos 0, .pos 1]), (69, 1, ([] : List PySem.Str), [.pos 0]), (68, 1, ([] : List PySem.Str), [.pos 0]), (74, 2, ([] : List PySem.Str), [.pos 0, .pos 1]), (76, 2, ([] : List PySem.Str), [.pos 0, .pos 1]), (78, 1, ([] : List PySem.Str), [.pos 0]), (77, 1, ([] : List PySem.Str), [.pos 0]), (177, 3, ([] : List PySem.Str), [.pos 0, .pos 1, .pos 2]), (79, 2, ([] : List PySem.Str), [.pos 0, .pos 1]), (82, 3, ([] : List PySem.Str), [.pos 0, .pos 1, .pos 2]), (83, 3, ([] : List PySem.Str), [.pos 0, .pos 1, .pos 2]), (87, 4, ([] : List PySem.Str), [.pos 0, .pos 1, .pos 2, .pos 3]), (86, 3, ([] : List PySem.Str), [.pos 0, .pos 1, .pos 2]), (85, 3, ([] : List PySem.Str), [.pos 0, .pos 1, .pos 2]), (90, 4, ([] : List PySem.Str), [.pos 0, .pos 1, .pos 2, .pos 3]), (185, 4, ([] : List PySem.Str), [.pos 0, .pos 1, .pos 2, .pos 3]), (89, 4, ([] : List PySem.Str), [.pos 0, .pos 1, .pos 2, .pos 3]), (181, 2, ([] : List PySem.Str), [.pos 0, .pos 1]), (88, 2, ([] : List PySem.Str), [.pos 0, .pos 1]), (84, 1, ([] : List PySem.Str), [.pos 0]), (95, 1, ([] : List PySem.Str), [.pos 0]), (99, 3, ([] : List PySem.Str), [.pos 0, .pos 1, .pos 2]), (98, 3, ([] : List PySem.Str), [.pos 0, .pos 1, .pos 2]), (190, 3, ([] : List PySem.Str), [.pos 0, .pos 1, .pos 2]), (100, 3, ([] : List PySem.Str), [.pos 0, .pos 1, .pos 2]), (97, 3, ([] : List PySem.Str), [.pos 0, .pos 1, .pos 2]), (102, 3, ([] : List PySem.Str), [.pos 0, .pos 1, .pos 2]), (107, 1, ([] : List PySem.Str), [.pos 0]), (109, 1, ([] : List PySem.Str), [.pos 0]), (112, 2, ([] : List PySem.Str), [.pos 0, .pos 1]), (111, 1, ([] : List PySem.Str), [.pos 0]), (110, 1, ([] : List PySem.Str), [.pos 0]), (129, 2, ([] : List PySem.Str), [.pos 0, .pos 1]), (112, 1, ([] : List PySem.Str), [.pos 0, .dfl (.int 0)]), (113, 1, ([] : List PySem.Str), [.pos 0]), (27, 2, ([] : List PySem.Str), [.pos 0, .pos 1]), (154, 4, (["under"] : List PySem.Str), [.pos 0, .pos 1, .pos 2, .pos 3, .kw 0]), (117, 3, ([] : List PySem.Str), [.pos 0, .pos 1, .pos 2]), (116, 1, ([] : List PySem.Str), [.pos 0]), (121, 1, ([] : List PySem.Str), [.pos 0]), (35, 2, ([] : List PySem.Str), [.pos 0, .pos 1]), (16, 1, ([] : List PySem.Str), [.pos 0, .dfl (.int 0)]), (23, 1, ([] : List PySem.Str), [.pos 0]), (22, 2, ([] : List PySem.Str), [.pos 0, .pos 1]), (26, 2, ([] : List PySem.Str), [.pos 0, .pos 1]), (25, 2, ([] : List PySem.Str), [.pos 0, .pos 1]), (24, 1, ([] : List PySem.Str), [.pos 0]), (80, 3, ([] : List PySem.Str), [.pos 0, .pos 1, .pos 2]), (91, 4, ([] : List PySem.Str), [.pos 0, .pos 1, .pos 2, .pos 3]), (92, 3, ([] : List PySem.Str), [.pos 0, .pos 1, .pos 2]), (101, 4, ([] : List PySem.Str), [.pos 0, .pos 1, .pos 2, .pos 3]), (209, 3, ([] : List PySem.Str), [.pos 0, .pos 1, .pos 2]), (194, 2, ([] : List PySem.Str), [.pos 0, .pos 1]), (105, 2, ([] : List PySem.Str), [.pos 0, .pos 1]), (106, 2, ([] : List PySem.Str), [.pos 0, .pos 1]), (226, 3, ([] : List PySem.Str), [.pos 0, .pos 1, .pos 2]), (36, 2, ([] : List PySem.Str), [.pos 0, .pos 1]), (233, 2, ([] : List PySem.Str), [.pos 0, .pos 1]), (234, 5, ([] : List PySem.Str), [.pos 0, .pos 1, .pos 2, .pos 3, .pos 4]), (236, 4, ([] : List PySem.Str), [.pos 0, .pos 1, .pos 2, .pos 3]), (235, 3, ([] : List PySem.Str), [.pos 0, .pos 1, .pos 2]), (237, 1, ([] : List PySem.Str), [.pos 0]), (239, 3, ([] : List PySem.Str), [.pos 0, .pos 1, .pos 2]), (238, 1, ([] : List PySem.Str), [.pos 0])], (([some ("FillError" : PySem.Str), some ("BadSource" : PySem.Str), some ("BadValue" : PySem.Str), some ("BadScene" : PySem.Str), some ("BadLadder" : PySem.Str), none, none, none, none, none, none, none, none, none, none, none, none, none, some ("Ladder" : PySem.Str), none] : List (Option PySem.Str)) ++ ([none, none, none, none, none, none, none, none, none, none, none] : List (Option PySem.Str))), [none, none, none, none, none, none, none, none, none, none, none, none, none, none, none, none, none, none, some 129, none, none, none, none, none, none, none, none, none, none, none, none]⟩
abbrev R : PySem.W.OpenRow := PySem.W.OpenLaw.row PySem.Challenge.rw_prefilled_k16_whole_forms
abbrev hk : PySem.W.Hook := hookX 5 ck gn fn
def ob (s : PySem.W.SharedT) : AlX := obsXG 5 ck gn fn (HandSHeadRun.getT s)
theorem ob_eq (s : PySem.W.SharedT) : ob s = hk.obs s.abs := obsXG_eq (HandSHeadRun.getT_eq s)
def names : List PySem.Str := ((["FillError", "BadSource", "BadValue", "BadScene", "BadLadder", "WIDEST", "is_value", "is_number", "are_contents", "is_order", "is_scene", "next_name"] : List PySem.Str) ++ (["contents_from", "orders_of", "telling", "scenes_of", "MOST", "JOINS", "leaves_of", "is_form", "tells", "value_of", "width_of", "known_of"] : List PySem.Str) ++ (["joint", "is_within", "form_of", "Ladder", "_law_number", "_law_pick", "_law_leaf", "_law_tree", "_law_leaves", "_law_made", "_law_ladder_right"] : List PySem.Str))
theorem headRun (w : World) : HandSHeadRun.RunEq R (PySem.W.view R.prog [39]) hk ob 20000 names w := by
  intro os
  kernel_rfl
theorem sc0 : FnScope N0 ps0 (defScope (top 8)) := ⟨by kernel_rfl, by kernel_rfl, by kernel_rfl, by decide +kernel, by kernel_rfl, by decide +kernel, by decide +kernel⟩
theorem ok0 : okSs T N0 PF.b0 (defScope (top 8)) (defBody (top 8)) = true := by kernel_rfl
theorem sc1 : FnScope N1 ps1 (defScope (top 9)) := ⟨by kernel_rfl, by kernel_rfl, by kernel_rfl, by decide +kernel, by kernel_rfl, by decide +kernel, by decide +kernel⟩
theorem ok1 : okSs T N1 PF.b1 (defScope (top 9)) (defBody (top 9)) = true := by kernel_rfl
theorem sc2 : FnScope N2 ps2 (defScope (top 10)) := ⟨by kernel_rfl, by kernel_rfl, by kernel_rfl, by decide +kernel, by kernel_rfl, by decide +kernel, by decide +kernel⟩
theorem ok2 : okSs T N2 PF.b2 (defScope (top 10)) (defBody (top 10)) = true := by kernel_rfl
theorem sc3 : FnScope N3 ps3 (defScope (top 11)) := ⟨by kernel_rfl, by kernel_rfl, by kernel_rfl, by decide +kernel, by kernel_rfl, by decide +kernel, by decide +kernel⟩
theorem ok3 : okSs T N3 PF.b3 (defScope (top 11)) (defBody (top 11)) = true := by kernel_rfl
theorem sc4 : FnScope N4 ps4 (defScope (top 12)) := ⟨by kernel_rfl, by kernel_rfl, by kernel_rfl, by decide +kernel, by kernel_rfl, by decide +kernel, by decide +kernel⟩
theorem ok4 : okSs T N4 PF.b4 (defScope (top 12)) (defBody (top 12)) = true := by kernel_rfl
theorem sc5 : FnScope N5 ps5 (defScope (top 13)) := ⟨by kernel_rfl, by kernel_rfl, by kernel_rfl, by decide +kernel, by kernel_rfl, by decide +kernel, by decide +kernel⟩
theorem ok5 : okSs T N5 PF.b5 (defScope (top 13)) (defBody (top 13)) = true := by kernel_rfl
theorem sc8 : FnScope N8 ps8 (defScope (top 14)) := ⟨by kernel_rfl, by kernel_rfl, by kernel_rfl, by decide +kernel, by kernel_rfl, by decide +kernel, by decide +kernel⟩
theorem ok8 : okSs T N8 PF.b8 (defScope (top 14)) (defBody (top 14)) = true := by kernel_rfl
theorem sc9 : FnScope N9 ps9 (defScope (top 15)) := ⟨by kernel_rfl, by kernel_rfl, by kernel_rfl, by decide +kernel, by kernel_rfl, by decide +kernel, by decide +kernel⟩
theorem ok9 : okSs T N9 PF.b9 (defScope (top 15)) (defBody (top 15)) = true := by kernel_rfl
theorem sc10 : FnScope N10 ps10 (defScope (top 16)) := ⟨by kernel_rfl, by kernel_rfl, by kernel_rfl, by decide +kernel, by kernel_rfl, by decide +kernel, by decide +kernel⟩
theorem ok10 : okSs T N10 PF.b10 (defScope (top 16)) (defBody (top 16)) = true := by kernel_rfl
theorem sc11 : FnScope N11 ps11 (defScope (top 17)) := ⟨by kernel_rfl, by kernel_rfl, by kernel_rfl, by decide +kernel, by kernel_rfl, by decide +kernel, by decide +kernel⟩
theorem ok11 : okSs T N11 PF.b11 (defScope (top 17)) (defBody (top 17)) = true := by kernel_rfl
theorem sc15 : FnScope N15 ps15 (defScope (top 21)) := ⟨by kernel_rfl, by kernel_rfl, by kernel_rfl, by decide +kernel, by kernel_rfl, by decide +kernel, by decide +kernel⟩
theorem ok15 : okSs T N15 PF.b15 (defScope (top 21)) (defBody (top 21)) = true := by kernel_rfl
theorem sc16 : FnScope N16 ps16 (defScope (top 22)) := ⟨by kernel_rfl, by kernel_rfl, by kernel_rfl, by decide +kernel, by kernel_rfl, by decide +kernel, by decide +kernel⟩
theorem ok16 : okSs T N16 PF.b16 (defScope (top 22)) (defBody (top 22)) = true := by kernel_rfl
theorem sc17 : FnScope N17 ps17 (defScope (top 23)) := ⟨by kernel_rfl, by kernel_rfl, by kernel_rfl, by decide +kernel, by kernel_rfl, by decide +kernel, by decide +kernel⟩
theorem ok17 : okSs T N17 PF.b17 (defScope (top 23)) (defBody (top 23)) = true := by kernel_rfl
theorem sc18 : FnScope N18 ps18 (defScope (top 24)) := ⟨by kernel_rfl, by kernel_rfl, by kernel_rfl, by decide +kernel, by kernel_rfl, by decide +kernel, by decide +kernel⟩
theorem ok18 : okSs T N18 PF.b18 (defScope (top 24)) (defBody (top 24)) = true := by kernel_rfl
theorem sc19 : FnScope N19 ps19 (defScope (top 25)) := ⟨by kernel_rfl, by kernel_rfl, by kernel_rfl, by decide +kernel, by kernel_rfl, by decide +kernel, by decide +kernel⟩
theorem ok19 : okSs T N19 PF.b19 (defScope (top 25)) (defBody (top 25)) = true := by kernel_rfl
theorem sc20 : FnScope N20 ps20 (defScope (top 26)) := ⟨by kernel_rfl, by kernel_rfl, by kernel_rfl, by decide +kernel, by kernel_rfl, by decide +kernel, by decide +kernel⟩
theorem ok20 : okSs T N20 PF.b20 (defScope (top 26)) (defBody (top 26)) = true := by kernel_rfl
theorem sc21 : FnScope N21 ps21 (defScope (top 27)) := ⟨by kernel_rfl, by kernel_rfl, by kernel_rfl, by decide +kernel, by kernel_rfl, by decide +kernel, by decide +kernel⟩
theorem ok21 : okSs T N21 PF.b21 (defScope (top 27)) (defBody (top 27)) = true := by kernel_rfl
theorem sc22 : FnScope N22 ps22 (defScope (top 28)) := ⟨by kernel_rfl, by kernel_rfl, by kernel_rfl, by decide +kernel, by kernel_rfl, by decide +kernel, by decide +kernel⟩
theorem ok22 : okSs T N22 PF.b22 (defScope (top 28)) (defBody (top 28)) = true := by kernel_rfl
theorem sc23 : FnScope N23 ps23 (defScope (top 29)) := ⟨by kernel_rfl, by kernel_rfl, by kernel_rfl, by decide +kernel, by kernel_rfl, by decide +kernel, by decide +kernel⟩
theorem ok23 : okSs T N23 PF.b23 (defScope (top 29)) (defBody (top 29)) = true := by kernel_rfl
theorem sc129 : FnScope N129 ps129 (defScope (inClass (top 30) 0)) := ⟨by kernel_rfl, by kernel_rfl, by kernel_rfl, by decide +kernel, by kernel_rfl, by decide +kernel, by decide +kernel⟩
theorem ok129 : okSs T N129 PF.b129 (defScope (inClass (top 30) 0)) (defBody (inClass (top 30) 0)) = true := by kernel_rfl
theorem sc133 : FnScope N133 ps133 (defScope (inClass (top 30) 4)) := ⟨by kernel_rfl, by kernel_rfl, by kernel_rfl, by decide +kernel, by kernel_rfl, by decide +kernel, by decide +kernel⟩
theorem ok133 : okSs T N133 PF.b133 (defScope (inClass (top 30) 4)) (defBody (inClass (top 30) 4)) = true := by kernel_rfl
theorem sc134 : FnScope N134 ps134 (defScope (inClass (top 30) 5)) := ⟨by kernel_rfl, by kernel_rfl, by kernel_rfl, by decide +kernel, by kernel_rfl, by decide +kernel, by decide +kernel⟩
theorem ok134 : okSs T N134 PF.b134 (defScope (inClass (top 30) 5)) (defBody (inClass (top 30) 5)) = true := by kernel_rfl
theorem sc135 : FnScope N135 ps135 (defScope (inClass (top 30) 6)) := ⟨by kernel_rfl, by kernel_rfl, by kernel_rfl, by decide +kernel, by kernel_rfl, by decide +kernel, by decide +kernel⟩
theorem ok135 : okSs T N135 PF.b135 (defScope (inClass (top 30) 6)) (defBody (inClass (top 30) 6)) = true := by kernel_rfl
theorem sc136 : FnScope N136 ps136 (defScope (inClass (top 30) 7)) := ⟨by kernel_rfl, by kernel_rfl, by kernel_rfl, by decide +kernel, by kernel_rfl, by decide +kernel, by decide +kernel⟩
theorem ok136 : okSs T N136 PF.b136 (defScope (inClass (top 30) 7)) (defBody (inClass (top 30) 7)) = true := by kernel_rfl
theorem sc137 : FnScope N137 ps137 (defScope (inClass (top 30) 8)) := ⟨by kernel_rfl, by kernel_rfl, by kernel_rfl, by decide +kernel, by kernel_rfl, by decide +kernel, by decide +kernel⟩
theorem ok137 : okSs T N137 PF.b137 (defScope (inClass (top 30) 8)) (defBody (inClass (top 30) 8)) = true := by kernel_rfl
theorem sc138 : FnScope N138 ps138 (defScope (inClass (top 30) 9)) := ⟨by kernel_rfl, by kernel_rfl, by kernel_rfl, by decide +kernel, by kernel_rfl, by decide +kernel, by decide +kernel⟩
theorem ok138 : okSs T N138 PF.b138 (defScope (inClass (top 30) 9)) (defBody (inClass (top 30) 9)) = true := by kernel_rfl
theorem sc139 : FnScope N139 ps139 (defScope (inClass (top 30) 10)) := ⟨by kernel_rfl, by kernel_rfl, by kernel_rfl, by decide +kernel, by kernel_rfl, by decide +kernel, by decide +kernel⟩
theorem ok139 : okSs T N139 PF.b139 (defScope (inClass (top 30) 10)) (defBody (inClass (top 30) 10)) = true := by kernel_rfl
theorem sc140 : FnScope N140 ps140 (defScope (inClass (top 30) 11)) := ⟨by kernel_rfl, by kernel_rfl, by kernel_rfl, by decide +kernel, by kernel_rfl, by decide +kernel, by decide +kernel⟩
theorem ok140 : okSs T N140 PF.b140 (defScope (inClass (top 30) 11)) (defBody (inClass (top 30) 11)) = true := by kernel_rfl
theorem sc141 : FnScope N141 ps141 (defScope (inClass (top 30) 12)) := ⟨by kernel_rfl, by kernel_rfl, by kernel_rfl, by decide +kernel, by kernel_rfl, by decide +kernel, by decide +kernel⟩
theorem ok141 : okSs T N141 PF.b141 (defScope (inClass (top 30) 12)) (defBody (inClass (top 30) 12)) = true := by kernel_rfl
theorem sc142 : FnScope N142 ps142 (defScope (inClass (top 30) 13)) := ⟨by kernel_rfl, by kernel_rfl, by kernel_rfl, by decide +kernel, by kernel_rfl, by decide +kernel, by decide +kernel⟩
theorem ok142 : okSs T N142 PF.b142 (defScope (inClass (top 30) 13)) (defBody (inClass (top 30) 13)) = true := by kernel_rfl
theorem sc143 : FnScope N143 ps143 (defScope (inClass (top 30) 14)) := ⟨by kernel_rfl, by kernel_rfl, by kernel_rfl, by decide +kernel, by kernel_rfl, by decide +kernel, by decide +kernel⟩
theorem ok143 : okSs T N143 PF.b143 (defScope (inClass (top 30) 14)) (defBody (inClass (top 30) 14)) = true := by kernel_rfl
theorem sc144 : FnScope N144 ps144 (defScope (inClass (top 30) 15)) := ⟨by kernel_rfl, by kernel_rfl, by kernel_rfl, by decide +kernel, by kernel_rfl, by decide +kernel, by decide +kernel⟩
theorem ok144 : okSs T N144 PF.b144 (defScope (inClass (top 30) 15)) (defBody (inClass (top 30) 15)) = true := by kernel_rfl
theorem sc145 : FnScope N145 ps145 (defScope (inClass (top 30) 16)) := ⟨by kernel_rfl, by kernel_rfl, by kernel_rfl, by decide +kernel, by kernel_rfl, by decide +kernel, by decide +kernel⟩
theorem ok145 : okSs T N145 PF.b145 (defScope (inClass (top 30) 16)) (defBody (inClass (top 30) 16)) = true := by kernel_rfl
theorem sc146 : FnScope N146 ps146 (defScope (inClass (top 30) 17)) := ⟨by kernel_rfl, by kernel_rfl, by kernel_rfl, by decide +kernel, by kernel_rfl, by decide +kernel, by decide +kernel⟩
theorem ok146 : okSs T N146 PF.b146 (defScope (inClass (top 30) 17)) (defBody (inClass (top 30) 17)) = true := by kernel_rfl
theorem sc147 : FnScope N147 ps147 (defScope (inClass (top 30) 18)) := ⟨by kernel_rfl, by kernel_rfl, by kernel_rfl, by decide +kernel, by kernel_rfl, by decide +kernel, by decide +kernel⟩
theorem ok147 : okSs T N147 PF.b147 (defScope (inClass (top 30) 18)) (defBody (inClass (top 30) 18)) = true := by kernel_rfl
theorem sc148 : FnScope N148 ps148 (defScope (inClass (top 30) 19)) := ⟨by kernel_rfl, by kernel_rfl, by kernel_rfl, by decide +kernel, by kernel_rfl, by decide +kernel, by decide +kernel⟩
theorem ok148 : okSs T N148 PF.b148 (defScope (inClass (top 30) 19)) (defBody (inClass (top 30) 19)) = true := by kernel_rfl
theorem sc149 : FnScope N149 ps149 (defScope (inClass (top 30) 20)) := ⟨by kernel_rfl, by kernel_rfl, by kernel_rfl, by decide +kernel, by kernel_rfl, by decide +kernel, by decide +kernel⟩
theorem ok149 : okSs T N149 PF.b149 (defScope (inClass (top 30) 20)) (defBody (inClass (top 30) 20)) = true := by kernel_rfl
theorem sc150 : FnScope N150 ps150 (defScope (inClass (top 30) 21)) := ⟨by kernel_rfl, by kernel_rfl, by kernel_rfl, by decide +kernel, by kernel_rfl, by decide +kernel, by decide +kernel⟩
theorem ok150 : okSs T N150 PF.b150 (defScope (inClass (top 30) 21)) (defBody (inClass (top 30) 21)) = true := by kernel_rfl
theorem sc151 : FnScope N151 ps151 (defScope (inClass (top 30) 22)) := ⟨by kernel_rfl, by kernel_rfl, by kernel_rfl, by decide +kernel, by kernel_rfl, by decide +kernel, by decide +kernel⟩
theorem ok151 : okSs T N151 PF.b151 (defScope (inClass (top 30) 22)) (defBody (inClass (top 30) 22)) = true := by kernel_rfl
theorem sc152 : FnScope N152 ps152 (defScope (inClass (top 30) 23)) := ⟨by kernel_rfl, by kernel_rfl, by kernel_rfl, by decide +kernel, by kernel_rfl, by decide +kernel, by decide +kernel⟩
theorem ok152 : okSs T N152 PF.b152 (defScope (inClass (top 30) 23)) (defBody (inClass (top 30) 23)) = true := by kernel_rfl
theorem sc153 : FnScope N153 ps153 (defScope (inClass (top 30) 24)) := ⟨by kernel_rfl, by kernel_rfl, by kernel_rfl, by decide +kernel, by kernel_rfl, by decide +kernel, by decide +kernel⟩
theorem ok153 : okSs T N153 PF.b153 (defScope (inClass (top 30) 24)) (defBody (inClass (top 30) 24)) = true := by kernel_rfl
theorem sc233 : FnScope N233 ps233 (defScope (top 32)) := ⟨by kernel_rfl, by kernel_rfl, by kernel_rfl, by decide +kernel, by kernel_rfl, by decide +kernel, by decide +kernel⟩
theorem ok233 : okSs T N233 b233 (defScope (top 32)) (defBody (top 32)) = true := by kernel_rfl
theorem sc234 : FnScope N234 ps234 (defScope (top 33)) := ⟨by kernel_rfl, by kernel_rfl, by kernel_rfl, by decide +kernel, by kernel_rfl, by decide +kernel, by decide +kernel⟩
theorem ok234 : okSs T N234 b234 (defScope (top 33)) (defBody (top 33)) = true := by kernel_rfl
theorem sc235 : FnScope N235 ps235 (defScope (top 34)) := ⟨by kernel_rfl, by kernel_rfl, by kernel_rfl, by decide +kernel, by kernel_rfl, by decide +kernel, by decide +kernel⟩
theorem ok235 : okSs T N235 b235 (defScope (top 34)) (defBody (top 34)) = true := by kernel_rfl
theorem sc236 : FnScope N236 ps236 (defScope (top 35)) := ⟨by kernel_rfl, by kernel_rfl, by kernel_rfl, by decide +kernel, by kernel_rfl, by decide +kernel, by decide +kernel⟩
theorem ok236 : okSs T N236 b236 (defScope (top 35)) (defBody (top 35)) = true := by kernel_rfl
theorem sc237 : FnScope N237 ps237 (defScope (top 36)) := ⟨by kernel_rfl, by kernel_rfl, by kernel_rfl, by decide +kernel, by kernel_rfl, by decide +kernel, by decide +kernel⟩
theorem ok237 : okSs T N237 b237 (defScope (top 36)) (defBody (top 36)) = true := by kernel_rfl
theorem sc238 : FnScope N238 ps238 (defScope (top 37)) := ⟨by kernel_rfl, by kernel_rfl, by kernel_rfl, by decide +kernel, by kernel_rfl, by decide +kernel, by decide +kernel⟩
theorem ok238 : okSs T N238 b238 (defScope (top 37)) (defBody (top 37)) = true := by kernel_rfl
theorem sc239 : FnScope N239 ps239 (defScope (top 38)) := ⟨by kernel_rfl, by kernel_rfl, by kernel_rfl, by decide +kernel, by kernel_rfl, by decide +kernel, by decide +kernel⟩
theorem ok239 : okSs T N239 b239 (defScope (top 38)) (defBody (top 38)) = true := by kernel_rfl
theorem sc240 : FnScope N240 ps240 (defScope (top 39)) := ⟨by kernel_rfl, by kernel_rfl, by kernel_rfl, by decide +kernel, by kernel_rfl, by decide +kernel, by decide +kernel⟩
theorem ok240 : okSs T N240 b240 (defScope (top 39)) (defBody (top 39)) = true := by kernel_rfl
section
variable {P : Program} {w : World} {K : PySem.W.Frag} {mg : Str → Option Value} {h : Heap}
theorem fact0 (s : SaysX ck gn fn K) (X : K.In h) (G : h.Ns mainGlobals mg) : ∃ d a fd, mg ("is_value" : Str) = some (.ref a) ∧ FnF ⟨P, w, K, mg⟩ T p 0 d a fd := by
  obtain ⟨fd, F⟩ := s.def_ 0 (d := d0) rfl
  refine ⟨⟨"is_value", "is_value", defArgs (top 8), defBody (top 8), defScope (top 8), d0.dvs K, d0.kws K, N0, ps0⟩, _, fd, s.name X G 0 rfl, ⟨F, sc0, ⟨⟨1, 1, PF.b0⟩, rfl, rfl, rfl, ok0⟩, bind_of (l := [(0, 1, ([] : List PySem.Str), [.pos 0])]) rfl (by kernel_rfl) ?_⟩⟩
  intro q hq
  simp only [List.mem_cons, List.not_mem_nil, or_false] at hq
  · cases hq
    exact bind_all (Y := ⟨P, w, K, mg⟩) (sv := [.pos 0]) (su := [.pos 0]) F ⟨⟨rfl, rfl⟩, trivial⟩ (fun kV doc pm an cdv ct us ws l1 l2 => match us, ws, l1, l2 with | [u0], [], _, _ => ⟨_, rfl, rfl⟩)
theorem fact1 (s : SaysX ck gn fn K) (X : K.In h) (G : h.Ns mainGlobals mg) : ∃ d a fd, mg ("is_number" : Str) = some (.ref a) ∧ FnF ⟨P, w, K, mg⟩ T p 1 d a fd := by
  obtain ⟨fd, F⟩ := s.def_ 1 (d := d1) rfl
  refine ⟨⟨"is_number", "is_number", defArgs (top 9), defBody (top 9), defScope (top 9), d1.dvs K, d1.kws K, N1, ps1⟩, _, fd, s.name X G 1 rfl, ⟨F, sc1, ⟨⟨2, 2, PF.b1⟩, rfl, rfl, rfl, ok1⟩, bind_of (l := [(1, 2, ([] : List PySem.Str), [.pos 0, .pos 1])]) rfl (by kernel_rfl) ?_⟩⟩
  intro q hq
  simp only [List.mem_cons, List.not_mem_nil, or_false] at hq
  · cases hq
    exact bind_all (Y := ⟨P, w, K, mg⟩) (sv := [.pos 0, .pos 1]) (su := [.pos 0, .pos 1]) F ⟨⟨rfl, rfl⟩, ⟨⟨rfl, rfl⟩, trivial⟩⟩ (fun kV doc pm an cdv ct us ws l1 l2 => match us, ws, l1, l2 with | [u0, u1], [], _, _ => ⟨_, rfl, rfl⟩)
theorem fact2 (s : SaysX ck gn fn K) (X : K.In h) (G : h.Ns mainGlobals mg) : ∃ d a fd, mg ("are_contents" : Str) = some (.ref a) ∧ FnF ⟨P, w, K, mg⟩ T p 2 d a fd := by
  obtain ⟨fd, F⟩ := s.def_ 2 (d := d2) rfl
  refine ⟨⟨"are_contents", "are_contents", defArgs (top 10), defBody (top 10), defScope (top 10), d2.dvs K, d2.kws K, N2, ps2⟩, _, fd, s.name X G 2 rfl, ⟨F, sc2, ⟨⟨2, 3, PF.b2⟩, rfl, rfl, rfl, ok2⟩, bind_of (l := [(2, 2, ([] : List PySem.Str), [.pos 0, .pos 1])]) rfl (by kernel_rfl) ?_⟩⟩
  intro q hq
  simp only [List.mem_cons, List.not_mem_nil, or_false] at hq
  · cases hq
    exact bind_all (Y := ⟨P, w, K, mg⟩) (sv := [.pos 0, .pos 1]) (su := [.pos 0, .pos 1]) F ⟨⟨rfl, rfl⟩, ⟨⟨rfl, rfl⟩, trivial⟩⟩ (fun kV doc pm an cdv ct us ws l1 l2 => match us, ws, l1, l2 with | [u0, u1], [], _, _ => ⟨_, rfl, rfl⟩)
theorem fact3 (s : SaysX ck gn fn K) (X : K.In h) (G : h.Ns mainGlobals mg) : ∃ d a fd, mg ("is_order" : Str) = some (.ref a) ∧ FnF ⟨P, w, K, mg⟩ T p 3 d a fd := by
  obtain ⟨fd, F⟩ := s.def_ 3 (d := d3) rfl
  refine ⟨⟨"is_order", "is_order", defArgs (top 11), defBody (top 11), defScope (top 11), d3.dvs K, d3.kws K, N3, ps3⟩, _, fd, s.name X G 3 rfl, ⟨F, sc3, ⟨⟨2, 5, PF.b3⟩, rfl, rfl, rfl, ok3⟩, bind_of (l := [(3, 2, ([] : List PySem.Str), [.pos 0, .pos 1])]) rfl (by kernel_rfl) ?_⟩⟩
  intro q hq
  simp only [List.mem_cons, List.not_mem_nil, or_false] at hq
  · cases hq
    exact bind_all (Y := ⟨P, w, K, mg⟩) (sv := [.pos 0, .pos 1]) (su := [.pos 0, .pos 1]) F ⟨⟨rfl, rfl⟩, ⟨⟨rfl, rfl⟩, trivial⟩⟩ (fun kV doc pm an cdv ct us ws l1 l2 => match us, ws, l1, l2 with | [u0, u1], [], _, _ => ⟨_, rfl, rfl⟩)
theorem fact4 (s : SaysX ck gn fn K) (X : K.In h) (G : h.Ns mainGlobals mg) : ∃ d a fd, mg ("is_scene" : Str) = some (.ref a) ∧ FnF ⟨P, w, K, mg⟩ T p 4 d a fd := by
  obtain ⟨fd, F⟩ := s.def_ 4 (d := d4) rfl
  refine ⟨⟨"is_scene", "is_scene", defArgs (top 12), defBody (top 12), defScope (top 12), d4.dvs K, d4.kws K, N4, ps4⟩, _, fd, s.name X G 4 rfl, ⟨F, sc4, ⟨⟨2, 3, PF.b4⟩, rfl, rfl, rfl, ok4⟩, bind_of (l := [(4, 2, ([] : List PySem.Str), [.pos 0, .pos 1])]) rfl (by kernel_rfl) ?_⟩⟩
  intro q hq
  simp only [List.mem_cons, List.not_mem_nil, or_false] at hq
  · cases hq
    exact bind_all (Y := ⟨P, w, K, mg⟩) (sv := [.pos 0, .pos 1]) (su := [.pos 0, .pos 1]) F ⟨⟨rfl, rfl⟩, ⟨⟨rfl, rfl⟩, trivial⟩⟩ (fun kV doc pm an cdv ct us ws l1 l2 => match us, ws, l1, l2 with | [u0, u1], [], _, _ => ⟨_, rfl, rfl⟩)
theorem fact5 (s : SaysX ck gn fn K) (X : K.In h) (G : h.Ns mainGlobals mg) : ∃ d a fd, mg ("next_name" : Str) = some (.ref a) ∧ FnF ⟨P, w, K, mg⟩ T p 5 d a fd := by
  obtain ⟨fd, F⟩ := s.def_ 5 (d := d5) rfl
  refine ⟨⟨"next_name", "next_name", defArgs (top 13), defBody (top 13), defScope (top 13), d5.dvs K, d5.kws K, N5, ps5⟩, _, fd, s.name X G 5 rfl, ⟨F, sc5, ⟨⟨2, 3, PF.b5⟩, rfl, rfl, rfl, ok5⟩, bind_of (l := [(5, 2, ([] : List PySem.Str), [.pos 0, .pos 1])]) rfl (by kernel_rfl) ?_⟩⟩
  intro q hq
  simp only [List.mem_cons, List.not_mem_nil, or_false] at hq
  · cases hq
    exact bind_all (Y := ⟨P, w, K, mg⟩) (sv := [.pos 0, .pos 1]) (su := [.pos 0, .pos 1]) F ⟨⟨rfl, rfl⟩, ⟨⟨rfl, rfl⟩, trivial⟩⟩ (fun kV doc pm an cdv ct us ws l1 l2 => match us, ws, l1, l2 with | [u0, u1], [], _, _ => ⟨_, rfl, rfl⟩)
theorem fact8 (s : SaysX ck gn fn K) (X : K.In h) (G : h.Ns mainGlobals mg) : ∃ d a fd, mg ("contents_from" : Str) = some (.ref a) ∧ FnF ⟨P, w, K, mg⟩ T p 8 d a fd := by
  obtain ⟨fd, F⟩ := s.def_ 6 (d := d8) rfl
  refine ⟨⟨"contents_from", "contents_from", defArgs (top 14), defBody (top 14), defScope (top 14), d8.dvs K, d8.kws K, N8, ps8⟩, _, fd, s.name X G 6 rfl, ⟨F, sc8, ⟨⟨3, 9, PF.b8⟩, rfl, rfl, rfl, ok8⟩, bind_of (l := [(8, 3, ([] : List PySem.Str), [.pos 0, .pos 1, .pos 2])]) rfl (by kernel_rfl) ?_⟩⟩
  intro q hq
  simp only [List.mem_cons, List.not_mem_nil, or_false] at hq
  · cases hq
    exact bind_all (Y := ⟨P, w, K, mg⟩) (sv := [.pos 0, .pos 1, .pos 2]) (su := [.pos 0, .pos 1, .pos 2]) F ⟨⟨rfl, rfl⟩, ⟨⟨rfl, rfl⟩, ⟨⟨rfl, rfl⟩, trivial⟩⟩⟩ (fun kV doc pm an cdv ct us ws l1 l2 => match us, ws, l1, l2 with | [u0, u1, u2], [], _, _ => ⟨_, rfl, rfl⟩)
theorem fact9 (s : SaysX ck gn fn K) (X : K.In h) (G : h.Ns mainGlobals mg) : ∃ d a fd, mg ("orders_of" : Str) = some (.ref a) ∧ FnF ⟨P, w, K, mg⟩ T p 9 d a fd := by
  obtain ⟨fd, F⟩ := s.def_ 7 (d := d9) rfl
  refine ⟨⟨"orders_of", "orders_of", defArgs (top 15), defBody (top 15), defScope (top 15), d9.dvs K, d9.kws K, N9, ps9⟩, _, fd, s.name X G 7 rfl, ⟨F, sc9, ⟨⟨1, 5, PF.b9⟩, rfl, rfl, rfl, ok9⟩, bind_of (l := [(9, 1, ([] : List PySem.Str), [.pos 0])]) rfl (by kernel_rfl) ?_⟩⟩
  intro q hq
  simp only [List.mem_cons, List.not_mem_nil, or_false] at hq
  · cases hq
    exact bind_all (Y := ⟨P, w, K, mg⟩) (sv := [.pos 0]) (su := [.pos 0]) F ⟨⟨rfl, rfl⟩, trivial⟩ (fun kV doc pm an cdv ct us ws l1 l2 => match us, ws, l1, l2 with | [u0], [], _, _ => ⟨_, rfl, rfl⟩)
theorem fact10 (s : SaysX ck gn fn K) (X : K.In h) (G : h.Ns mainGlobals mg) : ∃ d a fd, mg ("telling" : Str) = some (.ref a) ∧ FnF ⟨P, w, K, mg⟩ T p 10 d a fd := by
  obtain ⟨fd, F⟩ := s.def_ 8 (d := d10) rfl
  refine ⟨⟨"telling", "telling", defArgs (top 16), defBody (top 16), defScope (top 16), d10.dvs K, d10.kws K, N10, ps10⟩, _, fd, s.name X G 8 rfl, ⟨F, sc10, ⟨⟨1, 3, PF.b10⟩, rfl, rfl, rfl, ok10⟩, bind_of (l := [(10, 1, ([] : List PySem.Str), [.pos 0])]) rfl (by kernel_rfl) ?_⟩⟩
  intro q hq
  simp only [List.mem_cons, List.not_mem_nil, or_false] at hq
  · cases hq
    exact bind_all (Y := ⟨P, w, K, mg⟩) (sv := [.pos 0]) (su := [.pos 0]) F ⟨⟨rfl, rfl⟩, trivial⟩ (fun kV doc pm an cdv ct us ws l1 l2 => match us, ws, l1, l2 with | [u0], [], _, _ => ⟨_, rfl, rfl⟩)
theorem fact11 (s : SaysX ck gn fn K) (X : K.In h) (G : h.Ns mainGlobals mg) : ∃ d a fd, mg ("scenes_of" : Str) = some (.ref a) ∧ FnF ⟨P, w, K, mg⟩ T p 11 d a fd := by
  obtain ⟨fd, F⟩ := s.def_ 9 (d := d11) rfl
  refine ⟨⟨"scenes_of", "scenes_of", defArgs (top 17), defBody (top 17), defScope (top 17), d11.dvs K, d11.kws K, N11, ps11⟩, _, fd, s.name X G 9 rfl, ⟨F, sc11, ⟨⟨2, 8, PF.b11⟩, rfl, rfl, rfl, ok11⟩, bind_of (l := [(11, 2, ([] : List PySem.Str), [.pos 0, .pos 1])]) rfl (by kernel_rfl) ?_⟩⟩
  intro q hq
  simp only [List.mem_cons, List.not_mem_nil, or_false] at hq
  · cases hq
    exact bind_all (Y := ⟨P, w, K, mg⟩) (sv := [.pos 0, .pos 1]) (su := [.pos 0, .pos 1]) F ⟨⟨rfl, rfl⟩, ⟨⟨rfl, rfl⟩, trivial⟩⟩ (fun kV doc pm an cdv ct us ws l1 l2 => match us, ws, l1, l2 with | [u0, u1], [], _, _ => ⟨_, rfl, rfl⟩)
theorem fact15 (s : SaysX ck gn fn K) (X : K.In h) (G : h.Ns mainGlobals mg) : ∃ d a fd, mg ("leaves_of" : Str) = some (.ref a) ∧ FnF ⟨P, w, K, mg⟩ T p 15 d a fd := by
  obtain ⟨fd, F⟩ := s.def_ 10 (d := d15) rfl
  refine ⟨⟨"leaves_of", "leaves_of", defArgs (top 21), defBody (top 21), defScope (top 21), d15.dvs K, d15.kws K, N15, ps15⟩, _, fd, s.name X G 10 rfl, ⟨F, sc15, ⟨⟨1, 1, PF.b15⟩, rfl, rfl, rfl, ok15⟩, bind_of (l := [(15, 1, ([] : List PySem.Str), [.pos 0])]) rfl (by kernel_rfl) ?_⟩⟩
  intro q hq
  simp only [List.mem_cons, List.not_mem_nil, or_false] at hq
  · cases hq
    exact bind_all (Y := ⟨P, w, K, mg⟩) (sv := [.pos 0]) (su := [.pos 0]) F ⟨⟨rfl, rfl⟩, trivial⟩ (fun kV doc pm an cdv ct us ws l1 l2 => match us, ws, l1, l2 with | [u0], [], _, _ => ⟨_, rfl, rfl⟩)
theorem fact16 (s : SaysX ck gn fn K) (X : K.In h) (G : h.Ns mainGlobals mg) : ∃ d a fd, mg ("is_form" : Str) = some (.ref a) ∧ FnF ⟨P, w, K, mg⟩ T p 16 d a fd := by
  obtain ⟨fd, F⟩ := s.def_ 11 (d := d16) rfl
  refine ⟨⟨"is_form", "is_form", defArgs (top 22), defBody (top 22), defScope (top 22), d16.dvs K, d16.kws K, N16, ps16⟩, _, fd, s.name X G 11 rfl, ⟨F, sc16, ⟨⟨2, 2, PF.b16⟩, rfl, rfl, rfl, ok16⟩, bind_of (l := [(16, 2, ([] : List PySem.Str), [.pos 0, .pos 1]), (16, 1, ([] : List PySem.Str), [.pos 0, .dfl (.int 0)])]) rfl (by kernel_rfl) ?_⟩⟩
  intro q hq
  simp only [List.mem_cons, List.not_mem_nil, or_false] at hq
  rcases hq with rfl | hq
  · exact bind_df (Y := ⟨P, w, K, mg⟩) (dvs := d16.dvs K) (dd := []) F 1 (by simp [d16, DefE.dvs]) rfl rfl (fun r H => RDs.nil) (fun T kV doc pm an cdv ct us its l1 l2 => match us, its, l1, l2 with | [u0, u1], [k0], _, _ => ⟨_, rfl, rfl⟩)
  · cases hq
    exact bind_df (Y := ⟨P, w, K, mg⟩) (dvs := d16.dvs K) (dd := [.int 0]) F 0 (by simp [d16, DefE.dvs]) rfl rfl (fun r H => RDs.cons (RD.int') (RDs.nil)) (fun T kV doc pm an cdv ct us its l1 l2 => match us, its, l1, l2 with | [u0], [k0], _, _ => ⟨_, rfl, rfl⟩)
theorem fact17 (s : SaysX ck gn fn K) (X : K.In h) (G : h.Ns mainGlobals mg) : ∃ d a fd, mg ("tells" : Str) = some (.ref a) ∧ FnF ⟨P, w, K, mg⟩ T p 17 d a fd := by
  obtain ⟨fd, F⟩ := s.def_ 12 (d := d17) rfl
  refine ⟨⟨"tells", "tells", defArgs (top 23), defBody (top 23), defScope (top 23), d17.dvs K, d17.kws K, N17, ps17⟩, _, fd, s.name X G 12 rfl, ⟨F, sc17, ⟨⟨3, 7, PF.b17⟩, rfl, rfl, rfl, ok17⟩, bind_of (l := [(17, 3, ([] : List PySem.Str), [.pos 0, .pos 1, .pos 2])]) rfl (by kernel_rfl) ?_⟩⟩
  intro q hq
  simp only [List.mem_cons, List.not_mem_nil, or_false] at hq
  · cases hq
    exact bind_all (Y := ⟨P, w, K, mg⟩) (sv := [.pos 0, .pos 1, .pos 2]) (su := [.pos 0, .pos 1, .pos 2]) F ⟨⟨rfl, rfl⟩, ⟨⟨rfl, rfl⟩, ⟨⟨rfl, rfl⟩, trivial⟩⟩⟩ (fun kV doc pm an cdv ct us ws l1 l2 => match us, ws, l1, l2 with | [u0, u1, u2], [], _, _ => ⟨_, rfl, rfl⟩)
theorem fact18 (s : SaysX ck gn fn K) (X : K.In h) (G : h.Ns mainGlobals mg) : ∃ d a fd, mg ("value_of" : Str) = some (.ref a) ∧ FnF ⟨P, w, K, mg⟩ T p 18 d a fd := by
  obtain ⟨fd, F⟩ := s.def_ 13 (d := d18) rfl
  refine ⟨⟨"value_of", "value_of", defArgs (top 24), defBody (top 24), defScope (top 24), d18.dvs K, d18.kws K, N18, ps18⟩, _, fd, s.name X G 13 rfl, ⟨F, sc18, ⟨⟨3, 4, PF.b18⟩, rfl, rfl, rfl, ok18⟩, bind_of (l := [(18, 3, ([] : List PySem.Str), [.pos 0, .pos 1, .pos 2])]) rfl (by kernel_rfl) ?_⟩⟩
  intro q hq
  simp only [List.mem_cons, List.not_mem_nil, or_false] at hq
  · cases hq
    exact bind_all (Y := ⟨P, w, K, mg⟩) (sv := [.pos 0, .pos 1, .pos 2]) (su := [.pos 0, .pos 1, .pos 2]) F ⟨⟨rfl, rfl⟩, ⟨⟨rfl, rfl⟩, ⟨⟨rfl, rfl⟩, trivial⟩⟩⟩ (fun kV doc pm an cdv ct us ws l1 l2 => match us, ws, l1, l2 with | [u0, u1, u2], [], _, _ => ⟨_, rfl, rfl⟩)
theorem fact19 (s : SaysX ck gn fn K) (X : K.In h) (G : h.Ns mainGlobals mg) : ∃ d a fd, mg ("width_of" : Str) = some (.ref a) ∧ FnF ⟨P, w, K, mg⟩ T p 19 d a fd := by
  obtain ⟨fd, F⟩ := s.def_ 14 (d := d19) rfl
  refine ⟨⟨"width_of", "width_of", defArgs (top 25), defBody (top 25), defScope (top 25), d19.dvs K, d19.kws K, N19, ps19⟩, _, fd, s.name X G 14 rfl, ⟨F, sc19, ⟨⟨1, 3, PF.b19⟩, rfl, rfl, rfl, ok19⟩, bind_of (l := [(19, 1, ([] : List PySem.Str), [.pos 0])]) rfl (by kernel_rfl) ?_⟩⟩
  intro q hq
  simp only [List.mem_cons, List.not_mem_nil, or_false] at hq
  · cases hq
    exact bind_all (Y := ⟨P, w, K, mg⟩) (sv := [.pos 0]) (su := [.pos 0]) F ⟨⟨rfl, rfl⟩, trivial⟩ (fun kV doc pm an cdv ct us ws l1 l2 => match us, ws, l1, l2 with | [u0], [], _, _ => ⟨_, rfl, rfl⟩)
theorem fact20 (s : SaysX ck gn fn K) (X : K.In h) (G : h.Ns mainGlobals mg) : ∃ d a fd, mg ("known_of" : Str) = some (.ref a) ∧ FnF ⟨P, w, K, mg⟩ T p 20 d a fd := by
  obtain ⟨fd, F⟩ := s.def_ 15 (d := d20) rfl
  refine ⟨⟨"known_of", "known_of", defArgs (top 26), defBody (top 26), defScope (top 26), d20.dvs K, d20.kws K, N20, ps20⟩, _, fd, s.name X G 15 rfl, ⟨F, sc20, ⟨⟨1, 5, PF.b20⟩, rfl, rfl, rfl, ok20⟩, bind_of (l := [(20, 1, ([] : List PySem.Str), [.pos 0])]) rfl (by kernel_rfl) ?_⟩⟩
  intro q hq
  simp only [List.mem_cons, List.not_mem_nil, or_false] at hq
  · cases hq
    exact bind_all (Y := ⟨P, w, K, mg⟩) (sv := [.pos 0]) (su := [.pos 0]) F ⟨⟨rfl, rfl⟩, trivial⟩ (fun kV doc pm an cdv ct us ws l1 l2 => match us, ws, l1, l2 with | [u0], [], _, _ => ⟨_, rfl, rfl⟩)
theorem fact21 (s : SaysX ck gn fn K) (X : K.In h) (G : h.Ns mainGlobals mg) : ∃ d a fd, mg ("joint" : Str) = some (.ref a) ∧ FnF ⟨P, w, K, mg⟩ T p 21 d a fd := by
  obtain ⟨fd, F⟩ := s.def_ 16 (d := d21) rfl
  refine ⟨⟨"joint", "joint", defArgs (top 27), defBody (top 27), defScope (top 27), d21.dvs K, d21.kws K, N21, ps21⟩, _, fd, s.name X G 16 rfl, ⟨F, sc21, ⟨⟨2, 2, PF.b21⟩, rfl, rfl, rfl, ok21⟩, bind_of (l := [(21, 2, ([] : List PySem.Str), [.pos 0, .pos 1])]) rfl (by kernel_rfl) ?_⟩⟩
  intro q hq
  simp only [List.mem_cons, List.not_mem_nil, or_false] at hq
  · cases hq
    exact bind_all (Y := ⟨P, w, K, mg⟩) (sv := [.pos 0, .pos 1]) (su := [.pos 0, .pos 1]) F ⟨⟨rfl, rfl⟩, ⟨⟨rfl, rfl⟩, trivial⟩⟩ (fun kV doc pm an cdv ct us ws l1 l2 => match us, ws, l1, l2 with | [u0, u1], [], _, _ => ⟨_, rfl, rfl⟩)
theorem fact22 (s : SaysX ck gn fn K) (X : K.In h) (G : h.Ns mainGlobals mg) : ∃ d a fd, mg ("is_within" : Str) = some (.ref a) ∧ FnF ⟨P, w, K, mg⟩ T p 22 d a fd := by
  obtain ⟨fd, F⟩ := s.def_ 17 (d := d22) rfl
  refine ⟨⟨"is_within", "is_within", defArgs (top 28), defBody (top 28), defScope (top 28), d22.dvs K, d22.kws K, N22, ps22⟩, _, fd, s.name X G 17 rfl, ⟨F, sc22, ⟨⟨2, 5, PF.b22⟩, rfl, rfl, rfl, ok22⟩, bind_of (l := [(22, 2, ([] : List PySem.Str), [.pos 0, .pos 1])]) rfl (by kernel_rfl) ?_⟩⟩
  intro q hq
  simp only [List.mem_cons, List.not_mem_nil, or_false] at hq
  · cases hq
    exact bind_all (Y := ⟨P, w, K, mg⟩) (sv := [.pos 0, .pos 1]) (su := [.pos 0, .pos 1]) F ⟨⟨rfl, rfl⟩, ⟨⟨rfl, rfl⟩, trivial⟩⟩ (fun kV doc pm an cdv ct us ws l1 l2 => match us, ws, l1, l2 with | [u0, u1], [], _, _ => ⟨_, rfl, rfl⟩)
theorem fact23 (s : SaysX ck gn fn K) (X : K.In h) (G : h.Ns mainGlobals mg) : ∃ d a fd, mg ("form_of" : Str) = some (.ref a) ∧ FnF ⟨P, w, K, mg⟩ T p 23 d a fd := by
  obtain ⟨fd, F⟩ := s.def_ 18 (d := d23) rfl
  refine ⟨⟨"form_of", "form_of", defArgs (top 29), defBody (top 29), defScope (top 29), d23.dvs K, d23.kws K, N23, ps23⟩, _, fd, s.name X G 18 rfl, ⟨F, sc23, ⟨⟨1, 1, PF.b23⟩, rfl, rfl, rfl, ok23⟩, bind_of (l := [(23, 1, ([] : List PySem.Str), [.pos 0])]) rfl (by kernel_rfl) ?_⟩⟩
  intro q hq
  simp only [List.mem_cons, List.not_mem_nil, or_false] at hq
  · cases hq
    exact bind_all (Y := ⟨P, w, K, mg⟩) (sv := [.pos 0]) (su := [.pos 0]) F ⟨⟨rfl, rfl⟩, trivial⟩ (fun kV doc pm an cdv ct us ws l1 l2 => match us, ws, l1, l2 with | [u0], [], _, _ => ⟨_, rfl, rfl⟩)
theorem fact129 (s : SaysX ck gn fn K) : ∃ d fd, FnF ⟨P, w, K, mg⟩ T p 129 d ((mA "Ladder" "__init__") K) fd := by
  obtain ⟨fd, F⟩ := s.def_ 19 (d := d129) rfl
  refine ⟨⟨"__init__", "Ladder.__init__", defArgs (inClass (top 30) 0), defBody (inClass (top 30) 0), defScope (inClass (top 30) 0), d129.dvs K, d129.kws K, N129, ps129⟩, fd, ⟨F, sc129, ⟨⟨2, 2, PF.b129⟩, rfl, rfl, rfl, ok129⟩, bind_of (l := [(129, 2, ([] : List PySem.Str), [.pos 0, .pos 1])]) rfl (by kernel_rfl) ?_⟩⟩
  intro q hq
  simp only [List.mem_cons, List.not_mem_nil, or_false] at hq
  · cases hq
    exact bind_all (Y := ⟨P, w, K, mg⟩) (sv := [.pos 0, .pos 1]) (su := [.pos 0, .pos 1]) F ⟨⟨rfl, rfl⟩, ⟨⟨rfl, rfl⟩, trivial⟩⟩ (fun kV doc pm an cdv ct us ws l1 l2 => match us, ws, l1, l2 with | [u0, u1], [], _, _ => ⟨_, rfl, rfl⟩)
theorem fact133 (s : SaysX ck gn fn K) : ∃ d fd, FnF ⟨P, w, K, mg⟩ T p 133 d ((pA "Ladder" "width") K) fd ∧ Binds K fd d.ps [] := by
  obtain ⟨fd, F⟩ := s.def_ 20 (d := d133) rfl
  refine ⟨⟨"width", "Ladder.width", defArgs (inClass (top 30) 4), defBody (inClass (top 30) 4), defScope (inClass (top 30) 4), d133.dvs K, d133.kws K, N133, ps133⟩, fd, ⟨F, sc133, ⟨⟨1, 1, PF.b133⟩, rfl, rfl, rfl, ok133⟩, bind_of (l := []) rfl (by kernel_rfl) ?_⟩, (fun s us _ hl => by rw [List.append_nil] at hl ⊢; exact FunD.bindsA (ps := ps133) F (fun _ _ _ _ _ _ us hl => match us, hl with | [_], _ => rfl) s us hl)⟩
  intro q hq
  exact nomatch hq
theorem fact134 (s : SaysX ck gn fn K) : ∃ d fd, FnF ⟨P, w, K, mg⟩ T p 134 d ((pA "Ladder" "known") K) fd ∧ Binds K fd d.ps [] := by
  obtain ⟨fd, F⟩ := s.def_ 21 (d := d134) rfl
  refine ⟨⟨"known", "Ladder.known", defArgs (inClass (top 30) 5), defBody (inClass (top 30) 5), defScope (inClass (top 30) 5), d134.dvs K, d134.kws K, N134, ps134⟩, fd, ⟨F, sc134, ⟨⟨1, 1, PF.b134⟩, rfl, rfl, rfl, ok134⟩, bind_of (l := []) rfl (by kernel_rfl) ?_⟩, (fun s us _ hl => by rw [List.append_nil] at hl ⊢; exact FunD.bindsA (ps := ps134) F (fun _ _ _ _ _ _ us hl => match us, hl with | [_], _ => rfl) s us hl)⟩
  intro q hq
  exact nomatch hq
theorem fact135 (s : SaysX ck gn fn K) : ∃ d fd, FnF ⟨P, w, K, mg⟩ T p 135 d ((mA "Ladder" "__eq__") K) fd ∧ Binds K fd d.ps [] := by
  obtain ⟨fd, F⟩ := s.def_ 22 (d := d135) rfl
  refine ⟨⟨"__eq__", "Ladder.__eq__", defArgs (inClass (top 30) 6), defBody (inClass (top 30) 6), defScope (inClass (top 30) 6), d135.dvs K, d135.kws K, N135, ps135⟩, fd, ⟨F, sc135, ⟨⟨2, 2, PF.b135⟩, rfl, rfl, rfl, ok135⟩, bind_of (l := []) rfl (by kernel_rfl) ?_⟩, (fun s us _ hl => by rw [List.append_nil] at hl ⊢; exact FunD.bindsA (ps := ps135) F (fun _ _ _ _ _ _ us hl => match us, hl with | [_, _], _ => rfl) s us hl)⟩
  intro q hq
  exact nomatch hq
theorem fact136 (s : SaysX ck gn fn K) : ∃ d fd, FnF ⟨P, w, K, mg⟩ T p 136 d ((mA "Ladder" "__len__") K) fd ∧ Binds K fd d.ps [] := by
  obtain ⟨fd, F⟩ := s.def_ 23 (d := d136) rfl
  refine ⟨⟨"__len__", "Ladder.__len__", defArgs (inClass (top 30) 7), defBody (inClass (top 30) 7), defScope (inClass (top 30) 7), d136.dvs K, d136.kws K, N136, ps136⟩, fd, ⟨F, sc136, ⟨⟨1, 1, PF.b136⟩, rfl, rfl, rfl, ok136⟩, bind_of (l := []) rfl (by kernel_rfl) ?_⟩, (fun s us _ hl => by rw [List.append_nil] at hl ⊢; exact FunD.bindsA (ps := ps136) F (fun _ _ _ _ _ _ us hl => match us, hl with | [_], _ => rfl) s us hl)⟩
  intro q hq
  exact nomatch hq
theorem fact137 (s : SaysX ck gn fn K) : ∃ d fd, FnF ⟨P, w, K, mg⟩ T p 137 d ((mA "Ladder" "__bool__") K) fd ∧ Binds K fd d.ps [] := by
  obtain ⟨fd, F⟩ := s.def_ 24 (d := d137) rfl
  refine ⟨⟨"__bool__", "Ladder.__bool__", defArgs (inClass (top 30) 8), defBody (inClass (top 30) 8), defScope (inClass (top 30) 8), d137.dvs K, d137.kws K, N137, ps137⟩, fd, ⟨F, sc137, ⟨⟨1, 2, PF.b137⟩, rfl, rfl, rfl, ok137⟩, bind_of (l := []) rfl (by kernel_rfl) ?_⟩, (fun s us _ hl => by rw [List.append_nil] at hl ⊢; exact FunD.bindsA (ps := ps137) F (fun _ _ _ _ _ _ us hl => match us, hl with | [_], _ => rfl) s us hl)⟩
  intro q hq
  exact nomatch hq
theorem fact138 (s : SaysX ck gn fn K) : ∃ d fd, FnF ⟨P, w, K, mg⟩ T p 138 d ((mA "Ladder" "__contains__") K) fd ∧ Binds K fd d.ps [] := by
  obtain ⟨fd, F⟩ := s.def_ 25 (d := d138) rfl
  refine ⟨⟨"__contains__", "Ladder.__contains__", defArgs (inClass (top 30) 9), defBody (inClass (top 30) 9), defScope (inClass (top 30) 9), d138.dvs K, d138.kws K, N138, ps138⟩, fd, ⟨F, sc138, ⟨⟨2, 2, PF.b138⟩, rfl, rfl, rfl, ok138⟩, bind_of (l := []) rfl (by kernel_rfl) ?_⟩, (fun s us _ hl => by rw [List.append_nil] at hl ⊢; exact FunD.bindsA (ps := ps138) F (fun _ _ _ _ _ _ us hl => match us, hl with | [_, _], _ => rfl) s us hl)⟩
  intro q hq
  exact nomatch hq
theorem fact139 (s : SaysX ck gn fn K) : ∃ d fd, FnF ⟨P, w, K, mg⟩ T p 139 d ((mA "Ladder" "__call__") K) fd := by
  obtain ⟨fd, F⟩ := s.def_ 26 (d := d139) rfl
  refine ⟨⟨"__call__", "Ladder.__call__", defArgs (inClass (top 30) 10), defBody (inClass (top 30) 10), defScope (inClass (top 30) 10), d139.dvs K, d139.kws K, N139, ps139⟩, fd, ⟨F, sc139, ⟨⟨3, 3, PF.b139⟩, rfl, rfl, rfl, ok139⟩, bind_of (l := []) rfl (by kernel_rfl) ?_⟩⟩
  intro q hq
  exact nomatch hq
theorem fact140 (s : SaysX ck gn fn K) : ∃ d fd, FnF ⟨P, w, K, mg⟩ T p 140 d ((mA "Ladder" "__or__") K) fd ∧ Binds K fd d.ps [] := by
  obtain ⟨fd, F⟩ := s.def_ 27 (d := d140) rfl
  refine ⟨⟨"__or__", "Ladder.__or__", defArgs (inClass (top 30) 11), defBody (inClass (top 30) 11), defScope (inClass (top 30) 11), d140.dvs K, d140.kws K, N140, ps140⟩, fd, ⟨F, sc140, ⟨⟨2, 2, PF.b140⟩, rfl, rfl, rfl, ok140⟩, bind_of (l := []) rfl (by kernel_rfl) ?_⟩, (fun s us _ hl => by rw [List.append_nil] at hl ⊢; exact FunD.bindsA (ps := ps140) F (fun _ _ _ _ _ _ us hl => match us, hl with | [_, _], _ => rfl) s us hl)⟩
  intro q hq
  exact nomatch hq
theorem fact141 (s : SaysX ck gn fn K) : ∃ d fd, FnF ⟨P, w, K, mg⟩ T p 141 d ((mA "Ladder" "__ror__") K) fd ∧ Binds K fd d.ps [] := by
  obtain ⟨fd, F⟩ := s.def_ 28 (d := d141) rfl
  refine ⟨⟨"__ror__", "Ladder.__ror__", defArgs (inClass (top 30) 12), defBody (inClass (top 30) 12), defScope (inClass (top 30) 12), d141.dvs K, d141.kws K, N141, ps141⟩, fd, ⟨F, sc141, ⟨⟨2, 2, PF.b141⟩, rfl, rfl, rfl, ok141⟩, bind_of (l := []) rfl (by kernel_rfl) ?_⟩, (fun s us _ hl => by rw [List.append_nil] at hl ⊢; exact FunD.bindsA (ps := ps141) F (fun _ _ _ _ _ _ us hl => match us, hl with | [_, _], _ => rfl) s us hl)⟩
  intro q hq
  exact nomatch hq
theorem fact142 (s : SaysX ck gn fn K) : ∃ d fd, FnF ⟨P, w, K, mg⟩ T p 142 d ((mA "Ladder" "__and__") K) fd ∧ Binds K fd d.ps [] := by
  obtain ⟨fd, F⟩ := s.def_ 29 (d := d142) rfl
  refine ⟨⟨"__and__", "Ladder.__and__", defArgs (inClass (top 30) 13), defBody (inClass (top 30) 13), defScope (inClass (top 30) 13), d142.dvs K, d142.kws K, N142, ps142⟩, fd, ⟨F, sc142, ⟨⟨2, 2, PF.b142⟩, rfl, rfl, rfl, ok142⟩, bind_of (l := []) rfl (by kernel_rfl) ?_⟩, (fun s us _ hl => by rw [List.append_nil] at hl ⊢; exact FunD.bindsA (ps := ps142) F (fun _ _ _ _ _ _ us hl => match us, hl with | [_, _], _ => rfl) s us hl)⟩
  intro q hq
  exact nomatch hq
theorem fact143 (s : SaysX ck gn fn K) : ∃ d fd, FnF ⟨P, w, K, mg⟩ T p 143 d ((mA "Ladder" "__rand__") K) fd ∧ Binds K fd d.ps [] := by
  obtain ⟨fd, F⟩ := s.def_ 30 (d := d143) rfl
  refine ⟨⟨"__rand__", "Ladder.__rand__", defArgs (inClass (top 30) 14), defBody (inClass (top 30) 14), defScope (inClass (top 30) 14), d143.dvs K, d143.kws K, N143, ps143⟩, fd, ⟨F, sc143, ⟨⟨2, 2, PF.b143⟩, rfl, rfl, rfl, ok143⟩, bind_of (l := []) rfl (by kernel_rfl) ?_⟩, (fun s us _ hl => by rw [List.append_nil] at hl ⊢; exact FunD.bindsA (ps := ps143) F (fun _ _ _ _ _ _ us hl => match us, hl with | [_, _], _ => rfl) s us hl)⟩
  intro q hq
  exact nomatch hq
theorem fact144 (s : SaysX ck gn fn K) : ∃ d fd, FnF ⟨P, w, K, mg⟩ T p 144 d ((mA "Ladder" "__xor__") K) fd ∧ Binds K fd d.ps [] := by
  obtain ⟨fd, F⟩ := s.def_ 31 (d := d144) rfl
  refine ⟨⟨"__xor__", "Ladder.__xor__", defArgs (inClass (top 30) 15), defBody (inClass (top 30) 15), defScope (inClass (top 30) 15), d144.dvs K, d144.kws K, N144, ps144⟩, fd, ⟨F, sc144, ⟨⟨2, 2, PF.b144⟩, rfl, rfl, rfl, ok144⟩, bind_of (l := []) rfl (by kernel_rfl) ?_⟩, (fun s us _ hl => by rw [List.append_nil] at hl ⊢; exact FunD.bindsA (ps := ps144) F (fun _ _ _ _ _ _ us hl => match us, hl with | [_, _], _ => rfl) s us hl)⟩
  intro q hq
  exact nomatch hq
theorem fact145 (s : SaysX ck gn fn K) : ∃ d fd, FnF ⟨P, w, K, mg⟩ T p 145 d ((mA "Ladder" "__rxor__") K) fd ∧ Binds K fd d.ps [] := by
  obtain ⟨fd, F⟩ := s.def_ 32 (d := d145) rfl
  refine ⟨⟨"__rxor__", "Ladder.__rxor__", defArgs (inClass (top 30) 16), defBody (inClass (top 30) 16), defScope (inClass (top 30) 16), d145.dvs K, d145.kws K, N145, ps145⟩, fd, ⟨F, sc145, ⟨⟨2, 2, PF.b145⟩, rfl, rfl, rfl, ok145⟩, bind_of (l := []) rfl (by kernel_rfl) ?_⟩, (fun s us _ hl => by rw [List.append_nil] at hl ⊢; exact FunD.bindsA (ps := ps145) F (fun _ _ _ _ _ _ us hl => match us, hl with | [_, _], _ => rfl) s us hl)⟩
  intro q hq
  exact nomatch hq
theorem fact146 (s : SaysX ck gn fn K) : ∃ d fd, FnF ⟨P, w, K, mg⟩ T p 146 d ((mA "Ladder" "__sub__") K) fd ∧ Binds K fd d.ps [] := by
  obtain ⟨fd, F⟩ := s.def_ 33 (d := d146) rfl
  refine ⟨⟨"__sub__", "Ladder.__sub__", defArgs (inClass (top 30) 17), defBody (inClass (top 30) 17), defScope (inClass (top 30) 17), d146.dvs K, d146.kws K, N146, ps146⟩, fd, ⟨F, sc146, ⟨⟨2, 2, PF.b146⟩, rfl, rfl, rfl, ok146⟩, bind_of (l := []) rfl (by kernel_rfl) ?_⟩, (fun s us _ hl => by rw [List.append_nil] at hl ⊢; exact FunD.bindsA (ps := ps146) F (fun _ _ _ _ _ _ us hl => match us, hl with | [_, _], _ => rfl) s us hl)⟩
  intro q hq
  exact nomatch hq
theorem fact147 (s : SaysX ck gn fn K) : ∃ d fd, FnF ⟨P, w, K, mg⟩ T p 147 d ((mA "Ladder" "__rsub__") K) fd ∧ Binds K fd d.ps [] := by
  obtain ⟨fd, F⟩ := s.def_ 34 (d := d147) rfl
  refine ⟨⟨"__rsub__", "Ladder.__rsub__", defArgs (inClass (top 30) 18), defBody (inClass (top 30) 18), defScope (inClass (top 30) 18), d147.dvs K, d147.kws K, N147, ps147⟩, fd, ⟨F, sc147, ⟨⟨2, 2, PF.b147⟩, rfl, rfl, rfl, ok147⟩, bind_of (l := []) rfl (by kernel_rfl) ?_⟩, (fun s us _ hl => by rw [List.append_nil] at hl ⊢; exact FunD.bindsA (ps := ps147) F (fun _ _ _ _ _ _ us hl => match us, hl with | [_, _], _ => rfl) s us hl)⟩
  intro q hq
  exact nomatch hq
theorem fact148 (s : SaysX ck gn fn K) : ∃ d fd, FnF ⟨P, w, K, mg⟩ T p 148 d ((mA "Ladder" "__rshift__") K) fd ∧ Binds K fd d.ps [] := by
  obtain ⟨fd, F⟩ := s.def_ 35 (d := d148) rfl
  refine ⟨⟨"__rshift__", "Ladder.__rshift__", defArgs (inClass (top 30) 19), defBody (inClass (top 30) 19), defScope (inClass (top 30) 19), d148.dvs K, d148.kws K, N148, ps148⟩, fd, ⟨F, sc148, ⟨⟨2, 2, PF.b148⟩, rfl, rfl, rfl, ok148⟩, bind_of (l := []) rfl (by kernel_rfl) ?_⟩, (fun s us _ hl => by rw [List.append_nil] at hl ⊢; exact FunD.bindsA (ps := ps148) F (fun _ _ _ _ _ _ us hl => match us, hl with | [_, _], _ => rfl) s us hl)⟩
  intro q hq
  exact nomatch hq
theorem fact149 (s : SaysX ck gn fn K) : ∃ d fd, FnF ⟨P, w, K, mg⟩ T p 149 d ((mA "Ladder" "__rrshift__") K) fd ∧ Binds K fd d.ps [] := by
  obtain ⟨fd, F⟩ := s.def_ 36 (d := d149) rfl
  refine ⟨⟨"__rrshift__", "Ladder.__rrshift__", defArgs (inClass (top 30) 20), defBody (inClass (top 30) 20), defScope (inClass (top 30) 20), d149.dvs K, d149.kws K, N149, ps149⟩, fd, ⟨F, sc149, ⟨⟨2, 2, PF.b149⟩, rfl, rfl, rfl, ok149⟩, bind_of (l := []) rfl (by kernel_rfl) ?_⟩, (fun s us _ hl => by rw [List.append_nil] at hl ⊢; exact FunD.bindsA (ps := ps149) F (fun _ _ _ _ _ _ us hl => match us, hl with | [_, _], _ => rfl) s us hl)⟩
  intro q hq
  exact nomatch hq
theorem fact150 (s : SaysX ck gn fn K) : ∃ d fd, FnF ⟨P, w, K, mg⟩ T p 150 d ((mA "Ladder" "__le__") K) fd ∧ Binds K fd d.ps [] := by
  obtain ⟨fd, F⟩ := s.def_ 37 (d := d150) rfl
  refine ⟨⟨"__le__", "Ladder.__le__", defArgs (inClass (top 30) 21), defBody (inClass (top 30) 21), defScope (inClass (top 30) 21), d150.dvs K, d150.kws K, N150, ps150⟩, fd, ⟨F, sc150, ⟨⟨2, 2, PF.b150⟩, rfl, rfl, rfl, ok150⟩, bind_of (l := []) rfl (by kernel_rfl) ?_⟩, (fun s us _ hl => by rw [List.append_nil] at hl ⊢; exact FunD.bindsA (ps := ps150) F (fun _ _ _ _ _ _ us hl => match us, hl with | [_, _], _ => rfl) s us hl)⟩
  intro q hq
  exact nomatch hq
theorem fact151 (s : SaysX ck gn fn K) : ∃ d fd, FnF ⟨P, w, K, mg⟩ T p 151 d ((mA "Ladder" "__lt__") K) fd ∧ Binds K fd d.ps [] := by
  obtain ⟨fd, F⟩ := s.def_ 38 (d := d151) rfl
  refine ⟨⟨"__lt__", "Ladder.__lt__", defArgs (inClass (top 30) 22), defBody (inClass (top 30) 22), defScope (inClass (top 30) 22), d151.dvs K, d151.kws K, N151, ps151⟩, fd, ⟨F, sc151, ⟨⟨2, 2, PF.b151⟩, rfl, rfl, rfl, ok151⟩, bind_of (l := []) rfl (by kernel_rfl) ?_⟩, (fun s us _ hl => by rw [List.append_nil] at hl ⊢; exact FunD.bindsA (ps := ps151) F (fun _ _ _ _ _ _ us hl => match us, hl with | [_, _], _ => rfl) s us hl)⟩
  intro q hq
  exact nomatch hq
theorem fact152 (s : SaysX ck gn fn K) : ∃ d fd, FnF ⟨P, w, K, mg⟩ T p 152 d ((mA "Ladder" "__ge__") K) fd ∧ Binds K fd d.ps [] := by
  obtain ⟨fd, F⟩ := s.def_ 39 (d := d152) rfl
  refine ⟨⟨"__ge__", "Ladder.__ge__", defArgs (inClass (top 30) 23), defBody (inClass (top 30) 23), defScope (inClass (top 30) 23), d152.dvs K, d152.kws K, N152, ps152⟩, fd, ⟨F, sc152, ⟨⟨2, 2, PF.b152⟩, rfl, rfl, rfl, ok152⟩, bind_of (l := []) rfl (by kernel_rfl) ?_⟩, (fun s us _ hl => by rw [List.append_nil] at hl ⊢; exact FunD.bindsA (ps := ps152) F (fun _ _ _ _ _ _ us hl => match us, hl with | [_, _], _ => rfl) s us hl)⟩
  intro q hq
  exact nomatch hq
theorem fact153 (s : SaysX ck gn fn K) : ∃ d fd, FnF ⟨P, w, K, mg⟩ T p 153 d ((mA "Ladder" "__gt__") K) fd ∧ Binds K fd d.ps [] := by
  obtain ⟨fd, F⟩ := s.def_ 40 (d := d153) rfl
  refine ⟨⟨"__gt__", "Ladder.__gt__", defArgs (inClass (top 30) 24), defBody (inClass (top 30) 24), defScope (inClass (top 30) 24), d153.dvs K, d153.kws K, N153, ps153⟩, fd, ⟨F, sc153, ⟨⟨2, 2, PF.b153⟩, rfl, rfl, rfl, ok153⟩, bind_of (l := []) rfl (by kernel_rfl) ?_⟩, (fun s us _ hl => by rw [List.append_nil] at hl ⊢; exact FunD.bindsA (ps := ps153) F (fun _ _ _ _ _ _ us hl => match us, hl with | [_, _], _ => rfl) s us hl)⟩
  intro q hq
  exact nomatch hq
theorem fact233 (s : SaysX ck gn fn K) (X : K.In h) (G : h.Ns mainGlobals mg) : ∃ d a fd, mg ("_law_number" : Str) = some (.ref a) ∧ FnF ⟨P, w, K, mg⟩ T p 233 d a fd := by
  obtain ⟨fd, F⟩ := s.def_ 41 (d := d233) rfl
  refine ⟨⟨"_law_number", "_law_number", defArgs (top 32), defBody (top 32), defScope (top 32), d233.dvs K, d233.kws K, N233, ps233⟩, _, fd, s.name X G 19 rfl, ⟨F, sc233, ⟨⟨2, 8, b233⟩, rfl, rfl, rfl, ok233⟩, bind_of (l := [(233, 2, ([] : List PySem.Str), [.pos 0, .pos 1])]) rfl (by kernel_rfl) ?_⟩⟩
  intro q hq
  simp only [List.mem_cons, List.not_mem_nil, or_false] at hq
  · cases hq
    exact bind_all (Y := ⟨P, w, K, mg⟩) (sv := [.pos 0, .pos 1]) (su := [.pos 0, .pos 1]) F ⟨⟨rfl, rfl⟩, ⟨⟨rfl, rfl⟩, trivial⟩⟩ (fun kV doc pm an cdv ct us ws l1 l2 => match us, ws, l1, l2 with | [u0, u1], [], _, _ => ⟨_, rfl, rfl⟩)
theorem fact234 (s : SaysX ck gn fn K) (X : K.In h) (G : h.Ns mainGlobals mg) : ∃ d a fd, mg ("_law_pick" : Str) = some (.ref a) ∧ FnF ⟨P, w, K, mg⟩ T p 234 d a fd := by
  obtain ⟨fd, F⟩ := s.def_ 42 (d := d234) rfl
  refine ⟨⟨"_law_pick", "_law_pick", defArgs (top 33), defBody (top 33), defScope (top 33), d234.dvs K, d234.kws K, N234, ps234⟩, _, fd, s.name X G 20 rfl, ⟨F, sc234, ⟨⟨5, 6, b234⟩, rfl, rfl, rfl, ok234⟩, bind_of (l := [(234, 5, ([] : List PySem.Str), [.pos 0, .pos 1, .pos 2, .pos 3, .pos 4])]) rfl (by kernel_rfl) ?_⟩⟩
  intro q hq
  simp only [List.mem_cons, List.not_mem_nil, or_false] at hq
  · cases hq
    exact bind_all (Y := ⟨P, w, K, mg⟩) (sv := [.pos 0, .pos 1, .pos 2, .pos 3, .pos 4]) (su := [.pos 0, .pos 1, .pos 2, .pos 3, .pos 4]) F ⟨⟨rfl, rfl⟩, ⟨⟨rfl, rfl⟩, ⟨⟨rfl, rfl⟩, ⟨⟨rfl, rfl⟩, ⟨⟨rfl, rfl⟩, trivial⟩⟩⟩⟩⟩ (fun kV doc pm an cdv ct us ws l1 l2 => match us, ws, l1, l2 with | [u0, u1, u2, u3, u4], [], _, _ => ⟨_, rfl, rfl⟩)
theorem fact235 (s : SaysX ck gn fn K) (X : K.In h) (G : h.Ns mainGlobals mg) : ∃ d a fd, mg ("_law_leaf" : Str) = some (.ref a) ∧ FnF ⟨P, w, K, mg⟩ T p 235 d a fd := by
  obtain ⟨fd, F⟩ := s.def_ 43 (d := d235) rfl
  refine ⟨⟨"_law_leaf", "_law_leaf", defArgs (top 34), defBody (top 34), defScope (top 34), d235.dvs K, d235.kws K, N235, ps235⟩, _, fd, s.name X G 21 rfl, ⟨F, sc235, ⟨⟨3, 7, b235⟩, rfl, rfl, rfl, ok235⟩, bind_of (l := [(235, 3, ([] : List PySem.Str), [.pos 0, .pos 1, .pos 2])]) rfl (by kernel_rfl) ?_⟩⟩
  intro q hq
  simp only [List.mem_cons, List.not_mem_nil, or_false] at hq
  · cases hq
    exact bind_all (Y := ⟨P, w, K, mg⟩) (sv := [.pos 0, .pos 1, .pos 2]) (su := [.pos 0, .pos 1, .pos 2]) F ⟨⟨rfl, rfl⟩, ⟨⟨rfl, rfl⟩, ⟨⟨rfl, rfl⟩, trivial⟩⟩⟩ (fun kV doc pm an cdv ct us ws l1 l2 => match us, ws, l1, l2 with | [u0, u1, u2], [], _, _ => ⟨_, rfl, rfl⟩)
theorem fact236 (s : SaysX ck gn fn K) (X : K.In h) (G : h.Ns mainGlobals mg) : ∃ d a fd, mg ("_law_tree" : Str) = some (.ref a) ∧ FnF ⟨P, w, K, mg⟩ T p 236 d a fd := by
  obtain ⟨fd, F⟩ := s.def_ 44 (d := d236) rfl
  refine ⟨⟨"_law_tree", "_law_tree", defArgs (top 35), defBody (top 35), defScope (top 35), d236.dvs K, d236.kws K, N236, ps236⟩, _, fd, s.name X G 22 rfl, ⟨F, sc236, ⟨⟨4, 9, b236⟩, rfl, rfl, rfl, ok236⟩, bind_of (l := [(236, 4, ([] : List PySem.Str), [.pos 0, .pos 1, .pos 2, .pos 3])]) rfl (by kernel_rfl) ?_⟩⟩
  intro q hq
  simp only [List.mem_cons, List.not_mem_nil, or_false] at hq
  · cases hq
    exact bind_all (Y := ⟨P, w, K, mg⟩) (sv := [.pos 0, .pos 1, .pos 2, .pos 3]) (su := [.pos 0, .pos 1, .pos 2, .pos 3]) F ⟨⟨rfl, rfl⟩, ⟨⟨rfl, rfl⟩, ⟨⟨rfl, rfl⟩, ⟨⟨rfl, rfl⟩, trivial⟩⟩⟩⟩ (fun kV doc pm an cdv ct us ws l1 l2 => match us, ws, l1, l2 with | [u0, u1, u2, u3], [], _, _ => ⟨_, rfl, rfl⟩)
theorem fact237 (s : SaysX ck gn fn K) (X : K.In h) (G : h.Ns mainGlobals mg) : ∃ d a fd, mg ("_law_leaves" : Str) = some (.ref a) ∧ FnF ⟨P, w, K, mg⟩ T p 237 d a fd := by
  obtain ⟨fd, F⟩ := s.def_ 45 (d := d237) rfl
  refine ⟨⟨"_law_leaves", "_law_leaves", defArgs (top 36), defBody (top 36), defScope (top 36), d237.dvs K, d237.kws K, N237, ps237⟩, _, fd, s.name X G 23 rfl, ⟨F, sc237, ⟨⟨1, 1, b237⟩, rfl, rfl, rfl, ok237⟩, bind_of (l := [(237, 1, ([] : List PySem.Str), [.pos 0])]) rfl (by kernel_rfl) ?_⟩⟩
  intro q hq
  simp only [List.mem_cons, List.not_mem_nil, or_false] at hq
  · cases hq
    exact bind_all (Y := ⟨P, w, K, mg⟩) (sv := [.pos 0]) (su := [.pos 0]) F ⟨⟨rfl, rfl⟩, trivial⟩ (fun kV doc pm an cdv ct us ws l1 l2 => match us, ws, l1, l2 with | [u0], [], _, _ => ⟨_, rfl, rfl⟩)
theorem fact238 (s : SaysX ck gn fn K) (X : K.In h) (G : h.Ns mainGlobals mg) : ∃ d a fd, mg ("_law_made" : Str) = some (.ref a) ∧ FnF ⟨P, w, K, mg⟩ T p 238 d a fd := by
  obtain ⟨fd, F⟩ := s.def_ 46 (d := d238) rfl
  refine ⟨⟨"_law_made", "_law_made", defArgs (top 37), defBody (top 37), defScope (top 37), d238.dvs K, d238.kws K, N238, ps238⟩, _, fd, s.name X G 24 rfl, ⟨F, sc238, ⟨⟨1, 1, b238⟩, rfl, rfl, rfl, ok238⟩, bind_of (l := [(238, 1, ([] : List PySem.Str), [.pos 0])]) rfl (by kernel_rfl) ?_⟩⟩
  intro q hq
  simp only [List.mem_cons, List.not_mem_nil, or_false] at hq
  · cases hq
    exact bind_all (Y := ⟨P, w, K, mg⟩) (sv := [.pos 0]) (su := [.pos 0]) F ⟨⟨rfl, rfl⟩, trivial⟩ (fun kV doc pm an cdv ct us ws l1 l2 => match us, ws, l1, l2 with | [u0], [], _, _ => ⟨_, rfl, rfl⟩)
theorem fact239 (s : SaysX ck gn fn K) (X : K.In h) (G : h.Ns mainGlobals mg) : ∃ d a fd, mg ("_law_ladder_right" : Str) = some (.ref a) ∧ FnF ⟨P, w, K, mg⟩ T p 239 d a fd := by
  obtain ⟨fd, F⟩ := s.def_ 47 (d := d239) rfl
  refine ⟨⟨"_law_ladder_right", "_law_ladder_right", defArgs (top 38), defBody (top 38), defScope (top 38), d239.dvs K, d239.kws K, N239, ps239⟩, _, fd, s.name X G 25 rfl, ⟨F, sc239, ⟨⟨3, 7, b239⟩, rfl, rfl, rfl, ok239⟩, bind_of (l := [(239, 3, ([] : List PySem.Str), [.pos 0, .pos 1, .pos 2])]) rfl (by kernel_rfl) ?_⟩⟩
  intro q hq
  simp only [List.mem_cons, List.not_mem_nil, or_false] at hq
  · cases hq
    exact bind_all (Y := ⟨P, w, K, mg⟩) (sv := [.pos 0, .pos 1, .pos 2]) (su := [.pos 0, .pos 1, .pos 2]) F ⟨⟨rfl, rfl⟩, ⟨⟨rfl, rfl⟩, ⟨⟨rfl, rfl⟩, trivial⟩⟩⟩ (fun kV doc pm an cdv ct us ws l1 l2 => match us, ws, l1, l2 with | [u0, u1, u2], [], _, _ => ⟨_, rfl, rfl⟩)
theorem fact240 (s : SaysX ck gn fn K) (X : K.In h) (G : h.Ns mainGlobals mg) : ∃ d a fd, mg ("law" : Str) = some (.ref a) ∧ FnF ⟨P, w, K, mg⟩ T p 240 d a fd := by
  obtain ⟨fd, F⟩ := s.def_ 48 (d := d240) rfl
  refine ⟨⟨"law", "law", defArgs (top 39), defBody (top 39), defScope (top 39), d240.dvs K, d240.kws K, N240, ps240⟩, _, fd, s.name X G 26 rfl, ⟨F, sc240, ⟨⟨1, 8, b240⟩, rfl, rfl, rfl, ok240⟩, bind_of (l := []) rfl (by kernel_rfl) ?_⟩⟩
  intro q hq
  exact nomatch hq
theorem madF (s : SaysX ck gn fn K) : ∀ g f, mad.lookup g = some f → ∃ d fd, FnF ⟨P, w, K, mg⟩ T p g d (f K) fd ∧ Binds K fd d.ps [] := fun g f e => by
  have m := look_memN e
  simp only [mad, List.mem_cons, List.not_mem_nil, or_false] at m
  rcases m with m | m
  · cases m; exact fact133 s
  rcases m with m | m
  · cases m; exact fact134 s
  rcases m with m | m
  · cases m; exact fact135 s
  rcases m with m | m
  · cases m; exact fact136 s
  rcases m with m | m
  · cases m; exact fact137 s
  rcases m with m | m
  · cases m; exact fact138 s
  rcases m with m | m
  · cases m; exact fact140 s
  rcases m with m | m
  · cases m; exact fact141 s
  rcases m with m | m
  · cases m; exact fact142 s
  rcases m with m | m
  · cases m; exact fact143 s
  rcases m with m | m
  · cases m; exact fact144 s
  rcases m with m | m
  · cases m; exact fact145 s
  rcases m with m | m
  · cases m; exact fact146 s
  rcases m with m | m
  · cases m; exact fact147 s
  rcases m with m | m
  · cases m; exact fact148 s
  rcases m with m | m
  · cases m; exact fact149 s
  rcases m with m | m
  · cases m; exact fact150 s
  rcases m with m | m
  · cases m; exact fact151 s
  rcases m with m | m
  · cases m; exact fact152 s
  cases m; exact fact153 s
theorem iadF (s : SaysX ck gn fn K) : ∀ g f, iad.lookup g = some f → ∃ d fd, FnF ⟨P, w, K, mg⟩ T p g d (f K) fd := fun g f e => by
  have m := look_memN e
  simp only [iad, List.mem_cons, List.not_mem_nil, or_false] at m
  cases m; exact fact129 s
theorem prf (s : SaysX ck gn fn K) (X : K.In h) (G : h.Ns mainGlobals mg) : PrF ⟨P, w, K, mg⟩ T p where
  blt := fun f => by cases f <;> exact s.free X G (by decide +kernel)
  typ := fun x hx => s.free X G ((by decide +kernel : ∀ x ∈ tyNames, x ∈ ck.free) x hx)
  rng := s.free X G (by decide +kernel)
  enu := s.free X G (by decide +kernel)
  zip := s.free X G (by decide +kernel)
  set := s.free X G (by decide +kernel)
  obj := s.obj
  cnm := s.cnm X G rfl (by decide +kernel) (by decide +kernel) (by decide +kernel)
  cls := s.cls X G rfl rfl (madF s) (iadF s)
  xcs := s.xcs X G
  crf := s.crf X G
  glo := fun i x d e1 e2 => by
    match i, e1, e2 with
    | 0, e1, e2 => cases (Option.some.inj (Option.some.inj (show some (some ("WIDEST" : Str)) = some (some x) from e1))); cases (Option.some.inj (show some (.int 3 : D) = some d from e2)); exact s.glo X G (by simp [ck, gl])
    | 1, e1, e2 => cases (Option.some.inj (Option.some.inj (show some (some ("MOST" : Str)) = some (some x) from e1))); cases (Option.some.inj (show some (.int 9 : D) = some d from e2)); exact s.glo X G (by simp [ck, gl])
    | 2, e1, e2 => cases (Option.some.inj (Option.some.inj (show some (some ("JOINS" : Str)) = some (some x) from e1))); cases (Option.some.inj (show some (.tup [.str "first", .str "both", .str "alone", .str "except", .str "later"] : D) = some d from e2)); exact s.glo X G (by simp [ck, gl])
    | 3, e1, e2 => exact nomatch (show (some none : Option (Option Str)) = some (some x) from e1)
    | 4, e1, e2 => exact nomatch (show (some none : Option (Option Str)) = some (some x) from e1)
    | 5, e1, e2 => exact nomatch (show (some none : Option (Option Str)) = some (some x) from e1)
    | 6, e1, e2 => exact nomatch (show (some none : Option (Option Str)) = some (some x) from e1)
    | 7, e1, e2 => exact nomatch (show (some none : Option (Option Str)) = some (some x) from e1)
    | 8, e1, e2 => exact nomatch (show (some none : Option (Option Str)) = some (some x) from e1)
    | 9, e1, e2 => exact nomatch (show (some none : Option (Option Str)) = some (some x) from e1)
    | _ + 10, e1, e2 => exact nomatch (show (none : Option (Option Str)) = some (some x) from e1)
  fns := fun f x e => by
    match f, e with
    | 0, e => cases (Option.some.inj (Option.some.inj (show some (some ("is_value" : Str)) = some (some x) from e))); exact fact0 s X G
    | 1, e => cases (Option.some.inj (Option.some.inj (show some (some ("is_number" : Str)) = some (some x) from e))); exact fact1 s X G
    | 2, e => cases (Option.some.inj (Option.some.inj (show some (some ("are_contents" : Str)) = some (some x) from e))); exact fact2 s X G
    | 3, e => cases (Option.some.inj (Option.some.inj (show some (some ("is_order" : Str)) = some (some x) from e))); exact fact3 s X G
    | 4, e => cases (Option.some.inj (Option.some.inj (show some (some ("is_scene" : Str)) = some (some x) from e))); exact fact4 s X G
    | 5, e => cases (Option.some.inj (Option.some.inj (show some (some ("next_name" : Str)) = some (some x) from e))); exact fact5 s X G
    | 6, e => exact nomatch (show (some none : Option (Option Str)) = some (some x) from e)
    | 7, e => exact nomatch (show (some none : Option (Option Str)) = some (some x) from e)
    | 8, e => cases (Option.some.inj (Option.some.inj (show some (some ("contents_from" : Str)) = some (some x) from e))); exact fact8 s X G
    | 9, e => cases (Option.some.inj (Option.some.inj (show some (some ("orders_of" : Str)) = some (some x) from e))); exact fact9 s X G
    | 10, e => cases (Option.some.inj (Option.some.inj (show some (some ("telling" : Str)) = some (some x) from e))); exact fact10 s X G
    | 11, e => cases (Option.some.inj (Option.some.inj (show some (some ("scenes_of" : Str)) = some (some x) from e))); exact fact11 s X G
    | 12, e => exact nomatch (show (some none : Option (Option Str)) = some (some x) from e)
    | 13, e => exact nomatch (show (some none : Option (Option Str)) = some (some x) from e)
    | 14, e => exact nomatch (show (some none : Option (Option Str)) = some (some x) from e)
    | 15, e => cases (Option.some.inj (Option.some.inj (show some (some ("leaves_of" : Str)) = some (some x) from e))); exact fact15 s X G
    | 16, e => cases (Option.some.inj (Option.some.inj (show some (some ("is_form" : Str)) = some (some x) from e))); exact fact16 s X G
    | 17, e => cases (Option.some.inj (Option.some.inj (show some (some ("tells" : Str)) = some (some x) from e))); exact fact17 s X G
    | 18, e => cases (Option.some.inj (Option.some.inj (show some (some ("value_of" : Str)) = some (some x) from e))); exact fact18 s X G
    | 19, e => cases (Option.some.inj (Option.some.inj (show some (some ("width_of" : Str)) = some (some x) from e))); exact fact19 s X G
    | 20, e => cases (Option.some.inj (Option.some.inj (show some (some ("known_of" : Str)) = some (some x) from e))); exact fact20 s X G
    | 21, e => cases (Option.some.inj (Option.some.inj (show some (some ("joint" : Str)) = some (some x) from e))); exact fact21 s X G
    | 22, e => cases (Option.some.inj (Option.some.inj (show some (some ("is_within" : Str)) = some (some x) from e))); exact fact22 s X G
    | 23, e => cases (Option.some.inj (Option.some.inj (show some (some ("form_of" : Str)) = some (some x) from e))); exact fact23 s X G
    | 24, e => exact nomatch (show (some none : Option (Option Str)) = some (some x) from e)
    | 25, e => exact nomatch (show (some none : Option (Option Str)) = some (some x) from e)
    | 26, e => exact nomatch (show (some none : Option (Option Str)) = some (some x) from e)
    | 27, e => exact nomatch (show (some none : Option (Option Str)) = some (some x) from e)
    | 28, e => exact nomatch (show (some none : Option (Option Str)) = some (some x) from e)
    | 29, e => exact nomatch (show (some none : Option (Option Str)) = some (some x) from e)
    | 30, e => exact nomatch (show (some none : Option (Option Str)) = some (some x) from e)
    | 31, e => exact nomatch (show (some none : Option (Option Str)) = some (some x) from e)
    | 32, e => exact nomatch (show (some none : Option (Option Str)) = some (some x) from e)
    | 33, e => exact nomatch (show (some none : Option (Option Str)) = some (some x) from e)
    | 34, e => exact nomatch (show (some none : Option (Option Str)) = some (some x) from e)
    | 35, e => exact nomatch (show (some none : Option (Option Str)) = some (some x) from e)
    | 36, e => exact nomatch (show (some none : Option (Option Str)) = some (some x) from e)
    | 37, e => exact nomatch (show (some none : Option (Option Str)) = some (some x) from e)
    | 38, e => exact nomatch (show (some none : Option (Option Str)) = some (some x) from e)
    | 39, e => exact nomatch (show (some none : Option (Option Str)) = some (some x) from e)
    | 40, e => exact nomatch (show (some none : Option (Option Str)) = some (some x) from e)
    | 41, e => exact nomatch (show (some none : Option (Option Str)) = some (some x) from e)
    | 42, e => exact nomatch (show (some none : Option (Option Str)) = some (some x) from e)
    | 43, e => exact nomatch (show (some none : Option (Option Str)) = some (some x) from e)
    | 44, e => exact nomatch (show (some none : Option (Option Str)) = some (some x) from e)
    | 45, e => exact nomatch (show (some none : Option (Option Str)) = some (some x) from e)
    | 46, e => exact nomatch (show (some none : Option (Option Str)) = some (some x) from e)
    | 47, e => exact nomatch (show (some none : Option (Option Str)) = some (some x) from e)
    | 48, e => exact nomatch (show (some none : Option (Option Str)) = some (some x) from e)
    | 49, e => exact nomatch (show (some none : Option (Option Str)) = some (some x) from e)
    | 50, e => exact nomatch (show (some none : Option (Option Str)) = some (some x) from e)
    | 51, e => exact nomatch (show (some none : Option (Option Str)) = some (some x) from e)
    | 52, e => exact nomatch (show (some none : Option (Option Str)) = some (some x) from e)
    | 53, e => exact nomatch (show (some none : Option (Option Str)) = some (some x) from e)
    | 54, e => exact nomatch (show (some none : Option (Option Str)) = some (some x) from e)
    | 55, e => exact nomatch (show (some none : Option (Option Str)) = some (some x) from e)
    | 56, e => exact nomatch (show (some none : Option (Option Str)) = some (some x) from e)
    | 57, e => exact nomatch (show (some none : Option (Option Str)) = some (some x) from e)
    | 58, e => exact nomatch (show (some none : Option (Option Str)) = some (some x) from e)
    | 59, e => exact nomatch (show (some none : Option (Option Str)) = some (some x) from e)
    | 60, e => exact nomatch (show (some none : Option (Option Str)) = some (some x) from e)
    | 61, e => exact nomatch (show (some none : Option (Option Str)) = some (some x) from e)
    | 62, e => exact nomatch (show (some none : Option (Option Str)) = some (some x) from e)
    | 63, e => exact nomatch (show (some none : Option (Option Str)) = some (some x) from e)
    | 64, e => exact nomatch (show (some none : Option (Option Str)) = some (some x) from e)
    | 65, e => exact nomatch (show (some none : Option (Option Str)) = some (some x) from e)
    | 66, e => exact nomatch (show (some none : Option (Option Str)) = some (some x) from e)
    | 67, e => exact nomatch (show (some none : Option (Option Str)) = some (some x) from e)
    | 68, e => exact nomatch (show (some none : Option (Option Str)) = some (some x) from e)
    | 69, e => exact nomatch (show (some none : Option (Option Str)) = some (some x) from e)
    | 70, e => exact nomatch (show (some none : Option (Option Str)) = some (some x) from e)
    | 71, e => exact nomatch (show (some none : Option (Option Str)) = some (some x) from e)
    | 72, e => exact nomatch (show (some none : Option (Option Str)) = some (some x) from e)
    | 73, e => exact nomatch (show (some none : Option (Option Str)) = some (some x) from e)
    | 74, e => exact nomatch (show (some none : Option (Option Str)) = some (some x) from e)
    | 75, e => exact nomatch (show (some none : Option (Option Str)) = some (some x) from e)
    | 76, e => exact nomatch (show (some none : Option (Option Str)) = some (some x) from e)
    | 77, e => exact nomatch (show (some none : Option (Option Str)) = some (some x) from e)
    | 78, e => exact nomatch (show (some none : Option (Option Str)) = some (some x) from e)
    | 79, e => exact nomatch (show (some none : Option (Option Str)) = some (some x) from e)
    | 80, e => exact nomatch (show (some none : Option (Option Str)) = some (some x) from e)
    | 81, e => exact nomatch (show (some none : Option (Option Str)) = some (some x) from e)
    | 82, e => exact nomatch (show (some none : Option (Option Str)) = some (some x) from e)
    | 83, e => exact nomatch (show (some none : Option (Option Str)) = some (some x) from e)
    | 84, e => exact nomatch (show (some none : Option (Option Str)) = some (some x) from e)
    | 85, e => exact nomatch (show (some none : Option (Option Str)) = some (some x) from e)
    | 86, e => exact nomatch (show (some none : Option (Option Str)) = some (some x) from e)
    | 87, e => exact nomatch (show (some none : Option (Option Str)) = some (some x) from e)
    | 88, e => exact nomatch (show (some none : Option (Option Str)) = some (some x) from e)
    | 89, e => exact nomatch (show (some none : Option (Option Str)) = some (some x) from e)
    | 90, e => exact nomatch (show (some none : Option (Option Str)) = some (some x) from e)
    | 91, e => exact nomatch (show (some none : Option (Option Str)) = some (some x) from e)
    | 92, e => exact nomatch (show (some none : Option (Option Str)) = some (some x) from e)
    | 93, e => exact nomatch (show (some none : Option (Option Str)) = some (some x) from e)
    | 94, e => exact nomatch (show (some none : Option (Option Str)) = some (some x) from e)
    | 95, e => exact nomatch (show (some none : Option (Option Str)) = some (some x) from e)
    | 96, e => exact nomatch (show (some none : Option (Option Str)) = some (some x) from e)
    | 97, e => exact nomatch (show (some none : Option (Option Str)) = some (some x) from e)
    | 98, e => exact nomatch (show (some none : Option (Option Str)) = some (some x) from e)
    | 99, e => exact nomatch (show (some none : Option (Option Str)) = some (some x) from e)
    | 100, e => exact nomatch (show (some none : Option (Option Str)) = some (some x) from e)
    | 101, e => exact nomatch (show (some none : Option (Option Str)) = some (some x) from e)
    | 102, e => exact nomatch (show (some none : Option (Option Str)) = some (some x) from e)
    | 103, e => exact nomatch (show (some none : Option (Option Str)) = some (some x) from e)
    | 104, e => exact nomatch (show (some none : Option (Option Str)) = some (some x) from e)
    | 105, e => exact nomatch (show (some none : Option (Option Str)) = some (some x) from e)
    | 106, e => exact nomatch (show (some none : Option (Option Str)) = some (some x) from e)
    | 107, e => exact nomatch (show (some none : Option (Option Str)) = some (some x) from e)
    | 108, e => exact nomatch (show (some none : Option (Option Str)) = some (some x) from e)
    | 109, e => exact nomatch (show (some none : Option (Option Str)) = some (some x) from e)
    | 110, e => exact nomatch (show (some none : Option (Option Str)) = some (some x) from e)
    | 111, e => exact nomatch (show (some none : Option (Option Str)) = some (some x) from e)
    | 112, e => exact nomatch (show (some none : Option (Option Str)) = some (some x) from e)
    | 113, e => exact nomatch (show (some none : Option (Option Str)) = some (some x) from e)
    | 114, e => exact nomatch (show (some none : Option (Option Str)) = some (some x) from e)
    | 115, e => exact nomatch (show (some none : Option (Option Str)) = some (some x) from e)
    | 116, e => exact nomatch (show (some none : Option (Option Str)) = some (some x) from e)
    | 117, e => exact nomatch (show (some none : Option (Option Str)) = some (some x) from e)
    | 118, e => exact nomatch (show (some none : Option (Option Str)) = some (some x) from e)
    | 119, e => exact nomatch (show (some none : Option (Option Str)) = some (some x) from e)
    | 120, e => exact nomatch (show (some none : Option (Option Str)) = some (some x) from e)
    | 121, e => exact nomatch (show (some none : Option (Option Str)) = some (some x) from e)
    | 122, e => exact nomatch (show (some none : Option (Option Str)) = some (some x) from e)
    | 123, e => exact nomatch (show (some none : Option (Option Str)) = some (some x) from e)
    | 124, e => exact nomatch (show (some none : Option (Option Str)) = some (some x) from e)
    | 125, e => exact nomatch (show (some none : Option (Option Str)) = some (some x) from e)
    | 126, e => exact nomatch (show (some none : Option (Option Str)) = some (some x) from e)
    | 127, e => exact nomatch (show (some none : Option (Option Str)) = some (some x) from e)
    | 128, e => exact nomatch (show (some none : Option (Option Str)) = some (some x) from e)
    | 129, e => exact nomatch (show (some none : Option (Option Str)) = some (some x) from e)
    | 130, e => exact nomatch (show (some none : Option (Option Str)) = some (some x) from e)
    | 131, e => exact nomatch (show (some none : Option (Option Str)) = some (some x) from e)
    | 132, e => exact nomatch (show (some none : Option (Option Str)) = some (some x) from e)
    | 133, e => exact nomatch (show (some none : Option (Option Str)) = some (some x) from e)
    | 134, e => exact nomatch (show (some none : Option (Option Str)) = some (some x) from e)
    | 135, e => exact nomatch (show (some none : Option (Option Str)) = some (some x) from e)
    | 136, e => exact nomatch (show (some none : Option (Option Str)) = some (some x) from e)
    | 137, e => exact nomatch (show (some none : Option (Option Str)) = some (some x) from e)
    | 138, e => exact nomatch (show (some none : Option (Option Str)) = some (some x) from e)
    | 139, e => exact nomatch (show (some none : Option (Option Str)) = some (some x) from e)
    | 140, e => exact nomatch (show (some none : Option (Option Str)) = some (some x) from e)
    | 141, e => exact nomatch (show (some none : Option (Option Str)) = some (some x) from e)
    | 142, e => exact nomatch (show (some none : Option (Option Str)) = some (some x) from e)
    | 143, e => exact nomatch (show (some none : Option (Option Str)) = some (some x) from e)
    | 144, e => exact nomatch (show (some none : Option (Option Str)) = some (some x) from e)
    | 145, e => exact nomatch (show (some none : Option (Option Str)) = some (some x) from e)
    | 146, e => exact nomatch (show (some none : Option (Option Str)) = some (some x) from e)
    | 147, e => exact nomatch (show (some none : Option (Option Str)) = some (some x) from e)
    | 148, e => exact nomatch (show (some none : Option (Option Str)) = some (some x) from e)
    | 149, e => exact nomatch (show (some none : Option (Option Str)) = some (some x) from e)
    | 150, e => exact nomatch (show (some none : Option (Option Str)) = some (some x) from e)
    | 151, e => exact nomatch (show (some none : Option (Option Str)) = some (some x) from e)
    | 152, e => exact nomatch (show (some none : Option (Option Str)) = some (some x) from e)
    | 153, e => exact nomatch (show (some none : Option (Option Str)) = some (some x) from e)
    | 154, e => exact nomatch (show (some none : Option (Option Str)) = some (some x) from e)
    | 155, e => exact nomatch (show (some none : Option (Option Str)) = some (some x) from e)
    | 156, e => exact nomatch (show (some none : Option (Option Str)) = some (some x) from e)
    | 157, e => exact nomatch (show (some none : Option (Option Str)) = some (some x) from e)
    | 158, e => exact nomatch (show (some none : Option (Option Str)) = some (some x) from e)
    | 159, e => exact nomatch (show (some none : Option (Option Str)) = some (some x) from e)
    | 160, e => exact nomatch (show (some none : Option (Option Str)) = some (some x) from e)
    | 161, e => exact nomatch (show (some none : Option (Option Str)) = some (some x) from e)
    | 162, e => exact nomatch (show (some none : Option (Option Str)) = some (some x) from e)
    | 163, e => exact nomatch (show (some none : Option (Option Str)) = some (some x) from e)
    | 164, e => exact nomatch (show (some none : Option (Option Str)) = some (some x) from e)
    | 165, e => exact nomatch (show (some none : Option (Option Str)) = some (some x) from e)
    | 166, e => exact nomatch (show (some none : Option (Option Str)) = some (some x) from e)
    | 167, e => exact nomatch (show (some none : Option (Option Str)) = some (some x) from e)
    | 168, e => exact nomatch (show (some none : Option (Option Str)) = some (some x) from e)
    | 169, e => exact nomatch (show (some none : Option (Option Str)) = some (some x) from e)
    | 170, e => exact nomatch (show (some none : Option (Option Str)) = some (some x) from e)
    | 171, e => exact nomatch (show (some none : Option (Option Str)) = some (some x) from e)
    | 172, e => exact nomatch (show (some none : Option (Option Str)) = some (some x) from e)
    | 173, e => exact nomatch (show (some none : Option (Option Str)) = some (some x) from e)
    | 174, e => exact nomatch (show (some none : Option (Option Str)) = some (some x) from e)
    | 175, e => exact nomatch (show (some none : Option (Option Str)) = some (some x) from e)
    | 176, e => exact nomatch (show (some none : Option (Option Str)) = some (some x) from e)
    | 177, e => exact nomatch (show (some none : Option (Option Str)) = some (some x) from e)
    | 178, e => exact nomatch (show (some none : Option (Option Str)) = some (some x) from e)
    | 179, e => exact nomatch (show (some none : Option (Option Str)) = some (some x) from e)
    | 180, e => exact nomatch (show (some none : Option (Option Str)) = some (some x) from e)
    | 181, e => exact nomatch (show (some none : Option (Option Str)) = some (some x) from e)
    | 182, e => exact nomatch (show (some none : Option (Option Str)) = some (some x) from e)
    | 183, e => exact nomatch (show (some none : Option (Option Str)) = some (some x) from e)
    | 184, e => exact nomatch (show (some none : Option (Option Str)) = some (some x) from e)
    | 185, e => exact nomatch (show (some none : Option (Option Str)) = some (some x) from e)
    | 186, e => exact nomatch (show (some none : Option (Option Str)) = some (some x) from e)
    | 187, e => exact nomatch (show (some none : Option (Option Str)) = some (some x) from e)
    | 188, e => exact nomatch (show (some none : Option (Option Str)) = some (some x) from e)
    | 189, e => exact nomatch (show (some none : Option (Option Str)) = some (some x) from e)
    | 190, e => exact nomatch (show (some none : Option (Option Str)) = some (some x) from e)
    | 191, e => exact nomatch (show (some none : Option (Option Str)) = some (some x) from e)
    | 192, e => exact nomatch (show (some none : Option (Option Str)) = some (some x) from e)
    | 193, e => exact nomatch (show (some none : Option (Option Str)) = some (some x) from e)
    | 194, e => exact nomatch (show (some none : Option (Option Str)) = some (some x) from e)
    | 195, e => exact nomatch (show (some none : Option (Option Str)) = some (some x) from e)
    | 196, e => exact nomatch (show (some none : Option (Option Str)) = some (some x) from e)
    | 197, e => exact nomatch (show (some none : Option (Option Str)) = some (some x) from e)
    | 198, e => exact nomatch (show (some none : Option (Option Str)) = some (some x) from e)
    | 199, e => exact nomatch (show (some none : Option (Option Str)) = some (some x) from e)
    | 200, e => exact nomatch (show (some none : Option (Option Str)) = some (some x) from e)
    | 201, e => exact nomatch (show (some none : Option (Option Str)) = some (some x) from e)
    | 202, e => exact nomatch (show (some none : Option (Option Str)) = some (some x) from e)
    | 203, e => exact nomatch (show (some none : Option (Option Str)) = some (some x) from e)
    | 204, e => exact nomatch (show (some none : Option (Option Str)) = some (some x) from e)
    | 205, e => exact nomatch (show (some none : Option (Option Str)) = some (some x) from e)
    | 206, e => exact nomatch (show (some none : Option (Option Str)) = some (some x) from e)
    | 207, e => exact nomatch (show (some none : Option (Option Str)) = some (some x) from e)
    | 208, e => exact nomatch (show (some none : Option (Option Str)) = some (some x) from e)
    | 209, e => exact nomatch (show (some none : Option (Option Str)) = some (some x) from e)
    | 210, e => exact nomatch (show (some none : Option (Option Str)) = some (some x) from e)
    | 211, e => exact nomatch (show (some none : Option (Option Str)) = some (some x) from e)
    | 212, e => exact nomatch (show (some none : Option (Option Str)) = some (some x) from e)
    | 213, e => exact nomatch (show (some none : Option (Option Str)) = some (some x) from e)
    | 214, e => exact nomatch (show (some none : Option (Option Str)) = some (some x) from e)
    | 215, e => exact nomatch (show (some none : Option (Option Str)) = some (some x) from e)
    | 216, e => exact nomatch (show (some none : Option (Option Str)) = some (some x) from e)
    | 217, e => exact nomatch (show (some none : Option (Option Str)) = some (some x) from e)
    | 218, e => exact nomatch (show (some none : Option (Option Str)) = some (some x) from e)
    | 219, e => exact nomatch (show (some none : Option (Option Str)) = some (some x) from e)
    | 220, e => exact nomatch (show (some none : Option (Option Str)) = some (some x) from e)
    | 221, e => exact nomatch (show (some none : Option (Option Str)) = some (some x) from e)
    | 222, e => exact nomatch (show (some none : Option (Option Str)) = some (some x) from e)
    | 223, e => exact nomatch (show (some none : Option (Option Str)) = some (some x) from e)
    | 224, e => exact nomatch (show (some none : Option (Option Str)) = some (some x) from e)
    | 225, e => exact nomatch (show (some none : Option (Option Str)) = some (some x) from e)
    | 226, e => exact nomatch (show (some none : Option (Option Str)) = some (some x) from e)
    | 227, e => exact nomatch (show (some none : Option (Option Str)) = some (some x) from e)
    | 228, e => exact nomatch (show (some none : Option (Option Str)) = some (some x) from e)
    | 229, e => exact nomatch (show (some none : Option (Option Str)) = some (some x) from e)
    | 230, e => exact nomatch (show (some none : Option (Option Str)) = some (some x) from e)
    | 231, e => exact nomatch (show (some none : Option (Option Str)) = some (some x) from e)
    | 232, e => exact nomatch (show (some none : Option (Option Str)) = some (some x) from e)
    | 233, e => cases (Option.some.inj (Option.some.inj (show some (some ("_law_number" : Str)) = some (some x) from e))); exact fact233 s X G
    | 234, e => cases (Option.some.inj (Option.some.inj (show some (some ("_law_pick" : Str)) = some (some x) from e))); exact fact234 s X G
    | 235, e => cases (Option.some.inj (Option.some.inj (show some (some ("_law_leaf" : Str)) = some (some x) from e))); exact fact235 s X G
    | 236, e => cases (Option.some.inj (Option.some.inj (show some (some ("_law_tree" : Str)) = some (some x) from e))); exact fact236 s X G
    | 237, e => cases (Option.some.inj (Option.some.inj (show some (some ("_law_leaves" : Str)) = some (some x) from e))); exact fact237 s X G
    | 238, e => cases (Option.some.inj (Option.some.inj (show some (some ("_law_made" : Str)) = some (some x) from e))); exact fact238 s X G
    | 239, e => cases (Option.some.inj (Option.some.inj (show some (some ("_law_ladder_right" : Str)) = some (some x) from e))); exact fact239 s X G
    | 240, e => cases (Option.some.inj (Option.some.inj (show some (some ("law" : Str)) = some (some x) from e))); exact fact240 s X G
    | _ + 241, e => exact nomatch (show (none : Option (Option Str)) = some (some x) from e)
end
/-- what is left: the evaluator's answer -/
def Ans : Prop := ∀ ns : List Int, ns.length ≤ 63 → run p 40 240 [.lst (ns.map .int)] [] = .ok (.bl true) []
theorem lawEnd (hA : Ans) {w : World} {K : PySem.W.Frag} {mg : Str → Option Value} {h : Heap} {fa : Addr} (s : SaysX ck gn fn K) (X : K.In h) (G : h.Ns mainGlobals mg) (hmg : mg ("law" : Str) = some (.ref fa)) :
    ∃ (K : PySem.W.Frag) (fd : FuncData) (sp : Sp), K.In h ∧ (∀ (s : Shared) (u : Value), BindsTo s fd ⟨[u], []⟩ [("_law_script", u)]) ∧
      (∀ (H : Hp) (a : Addr) (ns : List Int), ns.length ≤ 63 → Only H → SqL K H a (ns.map V.int) → sp [.ref a] H (fun v _ => v = .bl true) fun _ _ _ => False) ∧
      ∀ base : Heap, K.In base → base.Ns mainGlobals mg → FnOk (PySem.Challenge.rw_prefilled_k16_whole_forms).prog w K mg base CX0 80 fa fd ["_law_script"] sp := by
  obtain ⟨fd, F⟩ := s.def_ 48 (d := d240) rfl
  have e := hmg.symm.trans (s.name X G 26 rfl)
  cases e
  have G2 : FnF ⟨(PySem.Challenge.rw_prefilled_k16_whole_forms).prog, w, K, mg⟩ T p 240 ⟨"law", "law", defArgs (top 39), defBody (top 39), defScope (top 39), d240.dvs K, d240.kws K, N240, ps240⟩ (He.ga K "law") fd :=
    ⟨F, sc240, ⟨⟨1, 8, b240⟩, rfl, rfl, rfl, ok240⟩, bind_of (l := []) rfl (by kernel_rfl) fun q hq => nomatch hq⟩
  have b := FunD.bindsA (ps := ps240) F fun _ _ _ _ _ _ us hl => match us, hl with | [_], _ => rfl
  exact ⟨K, fd, (fun vs H Q _ => spF ⟨(PySem.Challenge.rw_prefilled_k16_whole_forms).prog, w, K, mg⟩ (evAt p 40) 240 vs H Q fun _ _ _ => False), X, fun s v => b s [v] rfl, fun H a ns hl hO hS => sp_law s hO hS (hA ns hl), fun base _ _ => law_ok (prf s X G) 39 240 _ _ fd G2⟩
end K16
open PySem PySem.W PySem.Calls PyProof.Rows
theorem K16.holds (hA : K16.Ans) : PySem.Challenge.rw_prefilled_k16_whole_forms.Holds := by
  w_on; o_law
  refine HandSHeadRun.head_any (r := OpenLaw.row PySem.Challenge.rw_prefilled_k16_whole_forms) (q := view (OpenLaw.row PySem.Challenge.rw_prefilled_k16_whole_forms).prog [39]) (H := K16.hk) (ob := K16.ob) (M := 20000) (loose := K16.names) (d := HandSHeadRun.topDef (OpenLaw.row PySem.Challenge.rw_prefilled_k16_whole_forms).prog 39) (kwd := []) K16.ob_eq
    (by kernel_rfl) (fun s => by kernel_rfl) K16.headRun (by kernel_rfl) (by kernel_rfl) (by kernel_rfl) (by rfl) (by first | assumption | decide +kernel) (by decide +kernel) ⟨rfl, rfl, rfl, rfl, rfl, by decide +kernel⟩ ?hw ?hc
  case hw => w_witness2
  case hc =>
    refine L2.walk_ofE (l := PySem.Challenge.rw_prefilled_k16_whole_forms) (n := 63) (k := 80) (x := "_law_script") (CX := L2.CX0) rfl (by decide) (by kernel_rfl) ⟨rfl, by decide, by decide⟩ ?F (fun _ _ _ _ z => z)
    intro w mg fa h Y G hmg0
    obtain ⟨K, KX, c⟩ := Y
    have hmg : mg ("law" : PySem.Str) = some (.ref fa) := by
      have e : (HandSHeadRun.topDef (OpenLaw.row PySem.Challenge.rw_prefilled_k16_whole_forms).prog 39).name = ("law" : PySem.Str) := by kernel_rfl
      rw [← e]
      exact hmg0
    exact K16.lawEnd hA c KX G hmg


theorem PySem.Challenge.cw_prefilled_k16_whole_forms_holds : PySem.Challenge.rw_prefilled_k16_whole_forms.Holds := by
  exact K16.holds fun ns _ => K16.answer ns
