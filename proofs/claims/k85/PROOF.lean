import PyProof.Rows.All
import Wide.All
import OpenK.AllK
import Wide.FinOn
import HandS.ForMost
import HandS.ForExc
import HandS.More
import HandS.IsInst
import HandS.TupAny
import HandS.Flow
import HandS.StrMore
import HandS.Defaults
import HandS.Lambda
import KE.IntTextLaws
import HandS.Dict
import HandS.Exc
import HandS.ExcInit
import HandS.Iter
import HandS.Zip
import KE.GoesEnum
import HandS.TryMany
import HandS.ExcField
import HandS.ReplaceLit
import PyProof.MeetsStr3
import PyProof.FitsReplace
import PyProof.StrLawsFirst
import HandS.HeadHook4
import HandS.HeadWalk
import HandS.Head2
import HandS.HeadEnd
import Wide.Once
import PySem.Challenge.RW_tellback_k85_texts_of_deeds
set_option Elab.async false
set_option linter.all false
set_option maxRecDepth 100000
set_option maxHeartbeats 0
namespace Pv
/-- the longest list or text that is spoken of -/
abbrev SZ : Nat := 16777216
/-- a value: data as a tree; scr: the script (a list that is read alone); sdc: a written dict with text keys; obj n: the n-th live object -/
inductive D where
  | non | bl (b : Bool) | int (i : Int) | str (s : List Nat)
  | lst (xs : List D) | tup (xs : List D) | scr (ns : List Int) | sdc (kvs : List (List Nat × Int)) | edc
  | obj (n : Nat)
  deriving Inhabited, Repr
/-- a live object: a list, an instance of the class c with its fields by number -/
inductive Cell where
  | lst (xs : List D)
  | ins (c : Nat) (fs : List (Nat × D))
  deriving Inhabited, Repr
abbrev Store := List Cell
/-- an answer: a value, an error of class c made with as, or no answer that is spoken of -/
inductive Ro (α : Type) where
  | ok (a : α) (s : Store) | err (c : Nat) (as : List D) (s : Store) | stuck
  deriving Repr
def Ro.bind {α β : Type} (r : Ro α) (f : α → Store → Ro β) : Ro β := match r with
  | .ok a s => f a s
  | .err c as s => .err c as s
  | .stuck => .stuck
theorem Ro.bind_ok {α β : Type} (a : α) (s : Store) (f : α → Store → Ro β) : (Ro.ok a s).bind f = f a s := rfl
theorem Ro.bind_err {α β : Type} (c : Nat) (as : List D) (s : Store) (f : α → Store → Ro β) : (Ro.err c as s : Ro α).bind f = .err c as s := rfl
theorem Ro.bind_stuck {α β : Type} (f : α → Store → Ro β) : (Ro.stuck : Ro α).bind f = .stuck := rfl
/-- an optional value as an answer -/
def Ro.opt {α : Type} (o : Option α) (s : Store) : Ro α := match o with
  | some a => .ok a s
  | none => .stuck
theorem Ro.opt_some {α : Type} (a : α) (s : Store) : Ro.opt (some a) s = .ok a s := rfl
theorem Ro.opt_none {α : Type} (s : Store) : (Ro.opt (none : Option α) s) = .stuck := rfl
mutual
/-- no live object in it -/
def D.pure : D → Bool
  | .lst xs => D.pures xs
  | .tup xs => D.pures xs
  | .obj _ => false
  | _ => true
def D.pures : List D → Bool
  | [] => true
  | x :: xs => D.pure x && D.pures xs
end
/-- all or none -/
def mapO {α β : Type} (f : α → Option β) : List α → Option (List β)
  | [] => some []
  | x :: xs => match f x, mapO f xs with
    | some y, some ys => some (y :: ys)
    | _, _ => none
/-- live lists told as they stand; no instance -/
def D.frz (S : Store) : Nat → D → Option D
  | 0, _ => none
  | n + 1, .lst xs => (mapO (D.frz S n) xs).map .lst
  | n + 1, .tup xs => (mapO (D.frz S n) xs).map .tup
  | n + 1, .obj k => match S[k]? with
    | some (.lst xs) => (mapO (D.frz S n) xs).map .lst
    | _ => none
  | _ + 1, d => some d
def frzD (S : Store) (d : D) : Option D := if d.pure then some d else D.frz S 60 d
mutual
/-- the same -/
def D.beq : D → D → Bool
  | .non, .non => true
  | .bl a, .bl b => a == b
  | .int a, .int b => a == b
  | .str a, .str b => a == b
  | .lst a, .lst b => D.beqs a b
  | .tup a, .tup b => D.beqs a b
  | .scr a, .scr b => a == b
  | .sdc a, .sdc b => a == b
  | .edc, .edc => true
  | .obj a, .obj b => a == b
  | _, _ => false
def D.beqs : List D → List D → Bool
  | [], [] => true
  | x :: xs, y :: ys => D.beq x y && D.beqs xs ys
  | _, _ => false
end
mutual
theorem D.beq_eq : ∀ x y : D, D.beq x y = true → x = y
  | .non, y, h => by cases y <;> simp [D.beq] at h ⊢
  | .bl a, y, h => by cases y <;> simp [D.beq] at h ⊢; exact h
  | .int a, y, h => by cases y <;> simp [D.beq] at h ⊢; exact h
  | .str a, y, h => by cases y <;> simp [D.beq] at h ⊢; exact h
  | .scr a, y, h => by cases y <;> simp [D.beq] at h ⊢; exact h
  | .sdc a, y, h => by cases y <;> simp [D.beq] at h ⊢; exact h
  | .obj a, y, h => by cases y <;> simp [D.beq] at h ⊢; exact h
  | .edc, y, h => by cases y <;> simp [D.beq] at h ⊢
  | .lst a, y, h => by
    cases y with
    | lst b => rw [D.beqs_eq a b (by simpa [D.beq] using h)]
    | _ => simp [D.beq] at h
  | .tup a, y, h => by
    cases y with
    | tup b => rw [D.beqs_eq a b (by simpa [D.beq] using h)]
    | _ => simp [D.beq] at h
theorem D.beqs_eq : ∀ xs ys : List D, D.beqs xs ys = true → xs = ys
  | [], [], _ => rfl
  | [], _ :: _, h => by simp [D.beqs] at h
  | _ :: _, [], h => by simp [D.beqs] at h
  | x :: xs, y :: ys, h => by
    simp only [D.beqs, Bool.and_eq_true] at h
    rw [D.beq_eq x y h.1, D.beqs_eq xs ys h.2]
end
mutual
theorem D.beq_refl : ∀ x : D, D.beq x x = true
  | .non | .edc => rfl
  | .bl _ | .int _ | .str _ | .scr _ | .sdc _ | .obj _ => by simp [D.beq]
  | .lst a => by simpa [D.beq] using D.beqs_refl a
  | .tup a => by simpa [D.beq] using D.beqs_refl a
theorem D.beqs_refl : ∀ xs : List D, D.beqs xs xs = true
  | [] => rfl
  | x :: xs => by simp only [D.beqs, D.beq_refl x, D.beqs_refl xs, Bool.and_self]
end
mutual
def D.deep : D → Nat
  | .lst xs => D.deeps xs + 1
  | .tup xs => D.deeps xs + 1
  | _ => 0
def D.deeps : List D → Nat
  | [] => 0
  | x :: xs => max (D.deep x) (D.deeps xs)
end
def okStr (s : List Nat) : Bool := s.all (· < 0x110000)
mutual
/-- what == may look at: data without live objects, of right signs -/
def D.seen : D → Bool
  | .non => true
  | .bl _ => true
  | .int _ => true
  | .str s => okStr s
  | .lst xs => D.seens xs
  | .tup xs => D.seens xs
  | _ => false
def D.seens : List D → Bool
  | [] => true
  | x :: xs => D.seen x && D.seens xs
end
mutual
/-- == of data -/
def D.eqv : D → D → Bool
  | .non, .non => true
  | .bl a, .bl b => a == b
  | .bl a, .int j => (if a then 1 else 0) == j
  | .int i, .bl b => i == (if b then 1 else 0)
  | .int i, .int j => i == j
  | .str x, .str y => x == y
  | .lst xs, .lst ys => D.eqvs xs ys
  | .tup xs, .tup ys => D.eqvs xs ys
  | _, _ => false
def D.eqvs : List D → List D → Bool
  | [], [] => true
  | x :: xs, y :: ys => D.eqv x y && D.eqvs xs ys
  | _, _ => false
end
/-- the values that == tells apart by themselves -/
def D.scal : D → D → Bool
  | .non, .non => true
  | .non, .int _ => true
  | .int _, .non => true
  | .non, .bl _ => true
  | .bl _, .non => true
  | .non, .str _ => true
  | .str _, .non => true
  | .int _, .int _ => true | .bl _, .bl _ => true | .str _, .str _ => true
  | .int _, .str _ => true
  | .str _, .int _ => true
  | .bl _, .str _ => true
  | .str _, .bl _ => true
  | _, _ => false
def D.scEq : D → D → Bool
  | .non, .non => true
  | .int i, .int j => i == j
  | .bl i, .bl j => i == j
  | .str i, .str j => i == j
  | _, _ => false
/-- a live list told as a list, one level -/
def D.one (S : Store) : D → D
  | .obj n => match S[n]? with
    | some (.lst xs) => .lst xs
    | _ => .obj n
  | d => d
/-- == -/
def eqD (S : Store) (x y : D) : Option Bool :=
  if D.scal x y then some (D.scEq x y)
  else let x := x.one S; let y := y.one S
    if x.seen && y.seen && decide (x.deep ≤ 64) && decide (y.deep ≤ 64) then some (D.eqv x y) else none
/-- the items of a list, frozen or live -/
def D.items (S : Store) : D → Option (List D)
  | .lst xs => some xs
  | .obj n => match S[n]? with
    | some (.lst xs) => some xs
    | _ => none
  | _ => none
/-- a value's truth -/
def D.truth (S : Store) : D → Option Bool
  | .non => some false
  | .bl b => some b
  | .int i => some (i != 0)
  | .str s => if s.length ≤ SZ then some (!s.isEmpty) else none
  | .lst xs => some (!xs.isEmpty)
  | .tup xs => some (!xs.isEmpty)
  | .obj n => match S[n]? with
    | some (.lst xs) => some (!xs.isEmpty)
    | _ => none
  | _ => none
def D.flat : D → Bool
  | .non => true | .bl _ => true | .int _ => true | .str _ => true | _ => false
def D.flatEq : D → D → Bool
  | .non, .non => true
  | .bl a, .bl b => a == b
  | .bl a, .int b => (if
        a then 1 else 0) == b
  | .int a, .bl b => (a == (if b then 1 else 0))
  | .int a, .int b => a == b
  | .str a, .str b => a == b
  | _, _ => false
/-- x in y -/
def inD (S : Store) (x y : D) : Option Bool := match y with
  | .str s => (match x with
    | .str [c] => some (decide (c ∈ s))
    | _ => none)
  | .tup ys => if x.flat && ys.all D.flat then some (ys.any fun y => y.flatEq x) else none
  | .lst ys => if x.flat && ys.all D.flat then some (ys.any fun y => y.flatEq x) else none
  | .obj n => (match S[n]? with
    | some (.lst ys) => if x.flat && ys.all D.flat then some (ys.any fun y => y.flatEq x) else none
    | _ => none)
  | .sdc kvs => (match x with
    | .str k => some (kvs.lookup k).isSome
    | _ => none)
  | _ => none
/-- where an index points, counted from either end -/
def ixN (n : Nat) (i : Int) : Option Nat := if 0 ≤ i then (if i < n then some
      i.toNat else none) else if -(n : Int) ≤ i then some (i + n).toNat else none
def atI {α : Type} (xs : List α) (i : Int) :
      Option α := (ixN xs.length i).bind fun j => xs[j]?
/-- a slice's bound among n (d where it is left out) -/
def sIx (n d : Nat)
      : Option Int → Nat
  | none => d
  | some v => (if v < 0 then (v + (n : Int)).toNat else min v.toNat n)
def cut {α : Type} (xs : List α) (lo hi : Option Int) : List α := (xs.drop (sIx xs.length 0 lo)).take (sIx xs.length xs.length hi - sIx xs.length 0 lo)
/-- x[i] -/
def ixD (S : Store) (x i : D) : Option D := match x, i with
  | .lst xs, .int i => atI xs i
  | .tup xs, .int i => atI xs i
  | .str s, .int i => if s.length ≤ SZ then (atI s i).map fun c => .str [c] else none
  | .obj n, .int i => (match S[n]? with
    | some (.lst xs) => atI xs i
    | _ => none)
  | .sdc kvs, .str k => (kvs.lookup k).map .int
  | _, _ => none
/-- the signs of an int -/
def numS (i : Int) : List Nat := (toString i).toList.map Char.toNat
def isDig (c : Nat) : Bool := 48 ≤ c && c ≤ 57
def digVal (s : List Nat) : Nat := s.foldl (fun a c => a * 10 + (c - 48)) 0
/-- int(text), of figures, with a minus or without -/
def intS : List Nat → Option Int
  | 45 :: r => if r ≠ [] ∧ r.all isDig ∧ r.length ≤ 600 then some (-(digVal r : Int)) else none
  | s => if s ≠ [] ∧ s.all isDig ∧ s.length ≤ 600 then some (digVal s : Int) else none
/-- cut at each sign c -/
def splitC (c : Nat) : List Nat → List Nat → List (List Nat)
  | acc, [] => [acc]
  | acc, x :: r => if x = c then acc :: splitC c [] r else splitC c (acc ++ [x]) r
def joinS (sep : List Nat) : List (List Nat) → List Nat
  | [] => []
  | [p] => p
  | p :: q :: r => p ++ (sep ++ joinS sep (q :: r))
/-- the first place of c from a on -/
def findC (c : Nat) (s : List Nat) (a : Nat) : Int := match (s.drop a).findIdx? (· == c) with
  | some k => ((a + k : Nat) : Int)
  | none => -1
def strsOf : List D → Option (List (List Nat))
  | [] => some []
  | .str s :: r => (strsOf r).map (s :: ·)
  | _ => none
def intsOf : List D → Option (List Int)
  | [] => some []
  | .int s :: r => (intsOf r).map (s :: ·)
  | _ => none
def blsOf : List D → Option (List Bool)
  | [] => some []
  | .bl s :: r => (blsOf r).map (s :: ·)
  | _ => none
def lstsOf : List D → Option (List (List D))
  | [] => some []
  | .lst s :: r => (lstsOf r).map (s :: ·)
  | _ => none
inductive Op where | add | sub | mul | fdiv | mod | pow
  deriving DecidableEq, Repr
inductive Cm where | eq | ne | lt | le | gt | ge | in_ | nin | is_ | isn
  deriving DecidableEq, Repr
inductive Ty where | str | int | bool | list | tuple | dict
  deriving DecidableEq, Repr
/-- built-in functions of one value -/
inductive Bi where | len | int | str | list | tuple | sum | all
  deriving DecidableEq, Repr
/-- methods of built-in things -/
inductive Me where | append | extend | pop | popAt | split | join | find | lstrip | replace
  deriving DecidableEq, Repr
/-- what is stored to: a name, a tuple of names -/
inductive Tg where | nm (i : Nat) | tp (is : List Nat)
  deriving DecidableEq, Repr
mutual
inductive Ex where
  | var (i : Nat)
  | lit (d : D)
  | glb (i : Nat)
  | bin (o : Op) (a b : Ex)
  | neg (a : Ex)
  | cmp (o : Cm) (a b : Ex)
  | chn (o o' : Cm) (a b c : Ex)
  | and (a b : Ex) | or (a b : Ex) | not (a : Ex)
  | ife (c a b : Ex)
  | tup (es : Exs) | lst (es : Exs) | nls (es : Exs) | edc
  | idx (a i : Ex)
  | slc (a lo hi : Ex)
  | abs
  | call (f : Nat) (es : Exs)
  | bi (b : Bi) (e : Ex)
  | nli (e : Ex)
  | suml (e : Ex)
  | isi (e : Ex) (ts : List Ty)
  | me (m : Me) (o : Ex) (es : Exs)
  | fld (o : Ex) (f : Nat)
  | lc (s : Sr) (t : Tg) (own : List Nat) (ifs : Exs) (e : Ex)
  | mc (c f : Nat) (o : Ex) (es : Exs)
  | mk (c : Nat) (es : Exs)
  | grd (hs : List (Nat × List Nat)) (w : List Nat) (e : Ex)
inductive Exs where
  | nil | cons (e : Ex) (r : Exs)
/-- what is walked -/
inductive Sr where
  | val (e : Ex) | rng (e : Ex) | enm (e : Ex) | enf (e : Ex) (k : Nat) | zip (a b : Ex)
end
mutual
inductive Sm where
  | set (i : Nat) (e : Ex)
  | cat (i : Nat) (a b : Ex)
  | par (is : List Nat) (es : Exs)
  | unp (is : List Nat) (e : Ex)
  | aug (i : Nat) (o : Op) (e : Ex)
  | sti (o i e : Ex)
  | sfl (o : Ex) (f : Nat) (e : Ex)
  | afl (o : Ex) (f : Nat) (p : Op) (e : Ex)
  | ex (e : Ex)
  | ret (e : Ex) | retn
  | ife (c : Ex) (a b : Sms)
  | whl (c : Ex) (b : Sms)
  | for_ (s : Sr) (t : Tg) (b : Sms)
  | rse (c : Nat) (es : Exs)
  | pass | brk | cnt
inductive Sms where
  | nil | cons (s : Sm) (r : Sms)
end
/-- a def: how many parameters, how many names, whether it works on live objects of its own making that outlive it, its body -/
structure Fn where
  ar : Nat
  sl : Nat
  lv : Bool
  bd : Sms
/-- where a body's run comes to -/
inductive Fl where
  | nx (e : List (Option D)) | rt (d : D) | bk (e : List (Option D)) | ct (e : List (Option D))
  deriving Repr
abbrev Env := List (Option D)
/-- what a program stands on: its written constants, the call of its defs, the classes of its errors: how many fields -/
structure Cf where
  gl : List D
  call : Nat → List D → Store → Ro D
  init : Nat → Nat
def lim (i : Int) : Bool := decide (-(2 ^ 64) < i) && decide (i < 2 ^ 64)
def opD (o : Op) (S : Store) (x y : D) : Option D := match o with
  | .add => (match x, y with
    | .int i, .int j => some (.int (i + j))
    | .str a, .str b => if a.length + b.length ≤ SZ then some (.str (a ++ b)) else none
    | .tup a, .tup b => if a.length + b.length ≤ SZ then some (.tup (a ++ b)) else none
    | x, y => (match x.items S, y.items S with
      | some a, some b => if a.length + b.length ≤ SZ then some (.lst (a ++ b)) else none
      | _, _ => none))
  | .sub => (match x, y with
    | .int i, .int j => some (.int (i - j))
    | _, _ => none)
  | .mul => (match x, y with
    | .int i, .int j => if lim i || lim j then some (.int (i * j)) else none
    | .str a, .int k => if a.length * k.toNat ≤ SZ ∧ 0 ≤ k ∧ k ≤ 1000000 then some (.str (List.replicate k.toNat a).flatten) else none
    | _, _ => none)
  | .fdiv => (match x, y with
    | .int i, .int j => if j ≠ 0 ∧ j.natAbs < 1073741824 then some (.int (i.fdiv j)) else none
    | _, _ => none)
  | .mod => (match x, y with
    | .int i, .int j => if j ≠ 0 then some (.int (i.fmod j)) else none
    | _, _ => none)
  | .pow => (match x, y with
    | .int i, .int j => if 0 ≤ j ∧ j ≤ 1000000 ∧ i.natAbs < 2 ^ 64 then some (.int (i ^ j.toNat)) else none
    | _, _ => none)
def cmD (o : Cm) (S : Store) (x y : D) : Option Bool := match o with
  | .eq => eqD S x y
  | .ne => (eqD S x y).map (!·)
  | .lt => (match x, y with
    | .int i, .int j => some (decide (i < j))
    | _, _ => none)
  | .le => (match x, y with
    | .int i, .int j => some (decide (i ≤ j))
    | _, _ => none)
  | .gt => (match x, y with
    | .int i, .int j => some (decide (j < i))
    | _, _ => none)
  | .ge => (match x, y with
    | .int i, .int j => some (decide (j ≤ i))
    | _, _ => none)
  | .in_ => inD S x y
  | .nin => (inD S x y).map (!·)
  | .is_ => (match y with
    | .non => some (match x with | .non => true | _ => false)
    | _ => none)
  | .isn => (match y with
    | .non => some (match x with | .non => false | _ => true)
    | _ => none)
def lenD (S : Store) : D → Option Nat
  | .str s => if s.length ≤ SZ then some s.length else none
  | .lst xs => some xs.length
  | .tup xs => some xs.length
  | .obj n => (match S[n]? with
    | some (.lst xs) => some xs.length
    | _ => none)
  | _ => none
/-- built-in functions that leave the objects as they are -/
def biD (b : Bi) (S : Store) (x : D) : Option D := match b with
  | .len => (lenD S x).map fun (n : Nat) => D.int (n : Int)
  | .int => (match x with
    | .int i => some (.int i)
    | .bl k => some (.int (if k then 1 else 0))
    | .str s => (intS s).map .int
    | _ => none)
  | .str => (match x with
    | .int i => if i.natAbs < 2 ^ 200 then some (.str (numS i)) else none
    | _ => none)
  | .list => (match x with
    | .tup xs => some (.lst xs)
    | .scr ns => some (.lst (ns.map .int))
    | .str s => if s.length ≤ SZ then some (.lst (s.map fun c => .str [c])) else none
    | x => (x.items S).map .lst)
  | .tuple => (match x with
    | .tup xs => some (.tup xs)
    | x => (x.items S).map .tup)
  | .sum => ((x.items S).bind intsOf).map fun ns => .int ns.sum
  | .all => ((x.items S).bind blsOf).map fun bs => .bl (bs.all id)
def Ty.of : D → Option Ty
  | .bl _ => some .bool
  | .int _ => some .int
  | .str _ => some .str
  | .lst _ => some .list
  | .tup _ => some .tuple
  | .edc => some .dict
  | _ => none
/-- isinstance of a value of sort t (none: None) with T -/
def Ty.sub (t : Option Ty) (T : Ty) : Bool := match t with
  | none => false
  | some t => decide (t = T) || (decide (t = .bool) && decide (T = .int))
def isiD (S : Store) (x : D) (ts : List Ty) : Option Bool := match x with
  | .non => some false
  | .obj n => (match S[n]? with
    | some (.lst _) => some (ts.any (Ty.sub (some .list)))
    | _ => none)
  | x => (Ty.of x).map fun t => ts.any (Ty.sub (some t))
/-- replace the first k, the parts from the left -/
def replC (a b : List Nat) : Nat → Nat → List Nat → List Nat
  | 0, _, s => s
  | _, 0, s => s
  | _ + 1, _ + 1, [] => []
  | n + 1, k + 1, c :: r => if (c :: r).take a.length = a then b ++ replC a b n k ((c :: r).drop a.length) else c :: replC a b n (k + 1) r
/-- a live list's place and items -/
def live (S : Store) : D → Option (Nat × List D)
  | .obj n => match S[n]? with
    | some (.lst xs) => some (n, xs)
    | _ => none
  | _ => none
/-- what has the method -/
def Me.ofL : Me → Bool
  | .append => true | .extend => true | .pop => true | .popAt => true | _ => false
def D.isS : D → Bool
  | .str _ => true
  | _ => false
def meT (m : Me) (S : Store) (x : D) : Bool := if m.ofL then (live S x).isSome else x.isS
/-- methods: the value told, the objects behind it -/
def meD (m : Me) (S : Store) (x : D) (as : List D) : Option (D × Store) := match m, as with
  | .append, [y] => (match x with
    | .obj n => (match S[n]? with
      | some (.lst xs) => if xs.length < SZ then some (.non, S.set n (.lst (xs ++ [y]))) else none
      | _ => none)
    | _ => none)
  | .extend, [y] => (match x with
    | .obj n => (match S[n]?, y.items S with
      | some (.lst xs), some ys => if xs.length + ys.length ≤ SZ then some (.non, S.set n (.lst (xs ++ ys))) else none
      | _, _ => none)
    | _ => none)
  | .pop, [] => (match x with
    | .obj n => (match S[n]? with
      | some (.lst xs) => (match xs[xs.length - 1]? with
        | some y => some (y, S.set n (.lst xs.dropLast))
        | none => none)
      | _ => none)
    | _ => none)
  | .popAt, [.int i] => (match x with
    | .obj n => (match S[n]? with
      | some (.lst xs) => if -(2 ^ 62) ≤ i ∧ i < 2 ^ 62 then (match ixN xs.length i with
        | some k => (match xs[k]? with
          | some y => some (y, S.set n (.lst (xs.eraseIdx k)))
          | none => none)
        | none => none) else none
      | _ => none)
    | _ => none)
  | .split, [.str [c]] => (match x with
    | .str s => if s.length + 2 ≤ SZ ∧ c < 256 then some (.lst ((splitC c [] s).map .str), S) else none
    | _ => none)
  | .join, [y] => (match x with
    | .str s => (match (match y with | .tup ys => some ys | y => y.items S).bind strsOf with
      | some ys => if (ys.map (·.length)).sum + ys.length * s.length ≤ SZ then some (.str (joinS s ys), S) else none
      | none => none)
    | _ => none)
  | .find, [.str [c], .int a] => (match x with
    | .str s => if s.length ≤ SZ ∧ 0 ≤ a ∧ a ≤ s.length then some (.int (findC c s a.toNat), S) else none
    | _ => none)
  | .lstrip, [.str [c]] => (match x with
    | .str s => if s.length ≤ SZ then some (.str (s.dropWhile (· == c)), S) else none
    | _ => none)
  | .replace, [.str a, .str b, .int k] => (match x with
    | .str s => if a ≠ [] ∧ 0 ≤ k ∧ k ≤ 1000 ∧ s.length + 1000 * b.length ≤ SZ then some (.str (replC a b (s.length + 1) k.toNat s), S) else none
    | _ => none)
  | _, _ => none
/-- the items of a list or a tuple -/
def D.row (S : Store) : D → Option (List D)
  | .tup xs => some xs
  | x => x.items S
/-- what is walked by its value: a list, a tuple, a text -/
def walkD (S : Store) : D → Option (List D)
  | .tup xs => some xs
  | .str s => some (s.map fun c => .str [c])
  | x => x.items S
def pairs (k : Nat) : List D → List D
  | [] => []
  | x :: xs => .tup [.int k, x] :: pairs (k + 1) xs
def zipD : List D → List D → List D
  | x :: xs, y :: ys => .tup [x, y] :: zipD xs ys
  | _, _ => []
/-- what is to stand still while x is walked -/
def D.watch (x : D) (xs : List D) : List (Nat × List D) := match x with
  | .obj n => [(n, xs)]
  | _ => []
/-- the live lists that are walked stand still -/
def still (w : List (Nat × List D)) (S : Store) : Bool := w.all fun p => match S[p.1]? with
  | some (.lst ys) => D.beqs p.2 ys
  | _ => false
/-- the answer of a call that is told of, errors too -/
def grdD (hs : List (Nat × List Nat)) (w : List Nat) (r : Ro D) : Ro D := match r with
  | .ok d S => .ok (.tup [.str w, d]) S
  | .err c as S => (match hs.lookup c, as with
    | some w', d :: _ => .ok (.tup [.str w', d]) S
    | _, _ => .stuck)
  | .stuck => .stuck
def meR : Option (D × Store) → Ro D
  | some (d, S) => .ok d S
  | none => .stuck
def Env.get (e : Env) (i : Nat) : Option D := (e[i]?).bind id
def wipe (e : Env) : List Nat → Env
  | [] => e
  | v :: vs => (wipe e vs).set v none
def setAll (e : Env) : List Nat → List D → Env
  | i :: is, x :: xs => setAll (e.set i (some x)) is xs
  | _, _ => e
def bindT (t : Tg) (x : D) (e : Env) : Option Env := match t with
  | .nm i => some (e.set i (some x))
  | .tp is => (match x with
    | .tup xs => if xs.length = is.length then some (setAll e is xs) else none
    | _ => none)
/-- a test's answer -/
def tst (m : Bool) (r : Ro D) : Ro D := if m then r.bind fun d S => Ro.opt ((d.truth S).map .bl) S else r
/-- never an error -/
def Ro.sure {α : Type} (r : Ro α) : Ro α := match r with
  | .ok a S => .ok a S
  | _ => .stuck
def consO {α : Type} (o : Option α) (ys : List α) : List α := match o with
  | some y => y :: ys
  | none => ys
def lcLoop (b : D → Store → Ro (Option D)) (w : List (Nat × List D)) : List D → Store → Ro (List D)
  | [], S => .ok [] S
  | x :: xs, S => (b x S).sure.bind fun o S1 => if still w S1 then (lcLoop b w xs S1).bind fun ys S2 => .ok (consO o ys) S2 else .stuck
def forLoop (b : D → Env → Store → Ro Fl) (w : List (Nat × List D)) : List D → Env → Store → Ro Fl
  | [], e, S => .ok (.nx e) S
  | x :: xs, e, S => (b x e S).bind fun fl S1 => match fl with
    | .nx e => if still w S1 then forLoop b w xs e S1 else .stuck
    | .ct e => if still w S1 then forLoop b w xs e S1 else .stuck
    | .bk e => .ok (.nx e) S1
    | .rt d => .ok (.rt d) S1
def whlLoop (c : Env → Store → Ro D) (b : Env → Store → Ro Fl) : Nat → Env → Store → Ro Fl
  | 0, _, _ => .stuck
  | n + 1, e, S => (c e S).bind fun k S1 => match k with
    | .bl true => (b e S1).bind fun fl S2 => match fl with
      | .nx e => whlLoop c b n e S2
      | .ct e => whlLoop c b n e S2
      | .bk e => .ok (.nx e) S2
      | .rt d => .ok (.rt d) S2
    | .bl false => .ok (.nx e) S1
    | _ => .stuck
/-- turns that a while may take -/
def FUEL : Nat := 1000000000
def fldD (S : Store) (x : D) (f : Nat) : Option D := match x with
  | .obj n => (match S[n]? with
    | some (.ins _ fs) => fs.lookup f
    | _ => none)
  | _ => none
def putF (f : Nat) (d : D) : List (Nat × D) → List (Nat × D)
  | [] => [(f, d)]
  | (g, x) :: r => if g = f then (g, d) :: r else (g, x) :: putF f d r
def sflD (S : Store) (x : D) (f : Nat) (d : D) : Option Store := match x with
  | .obj n => (match S[n]? with
    | some (.ins c fs) => if fs.length < 900 then some (S.set n (.ins c (putF f d fs))) else none
    | _ => none)
  | _ => none
def stiD (S : Store) (x i d : D) : Option Store := match x, i with
  | .obj n, .int k => (match S[n]? with
    | some (.lst xs) => (match ixN xs.length k with
      | some j => some (S.set n (.lst (xs.set j d)))
      | none => none)
    | _ => none)
  | _, _ => none
def isCls (S : Store) (x : D) (c : Nat) : Bool := match x with
  | .obj n => (match S[n]? with
    | some (.ins c' _) => decide (c' = c)
    | _ => false)
  | _ => false
/-- a field, the instance's class ahead of it -/
def fldC (S : Store) (x : D) (f : Nat) : Option (Nat × D) := match x with
  | .obj n => (match S[n]? with
    | some (.ins c fs) => (fs.lookup f).map fun d => (c, d)
    | _ => none)
  | _ => none
def augD (o : Op) (x y : D) (S : Store) : Ro D := match x, y with
  | .int _, .int _ => Ro.opt (opD o S x y) S
  | _, _ => .stuck
def stiS (x k d : D) (e : Env) (S : Store) : Ro Fl := match stiD S x k d with
  | some S' => .ok (.nx e) S'
  | none => .stuck
def sflS (x : D) (f : Nat) (d : D) (e : Env) (S : Store) : Ro Fl := match sflD S x f d with
  | some S' => .ok (.nx e) S'
  | none => .stuck
/-- a slice -/
def slcD (S : Store) (x : D) (lo hi : Option Int) : Option D := match x with
  | .str s => if s.length ≤ SZ then some (.str (cut s lo hi)) else none
  | .tup xs => some (.tup (cut xs lo hi))
  | x => (x.items S).map fun xs => .lst (cut xs lo hi)
def prt : D → Option (Option Int)
  | .int i => some (some i)
  | _ => none
mutual
def evE (cf : Cf) (e : Env) : Bool → Ex → Store → Ro D
  | m, .var i, S => tst m (Ro.opt (e.get i) S)
  | m, .lit d, S => tst m (.ok d S)
  | m, .glb i, S => tst m (Ro.opt cf.gl[i]? S)
  | m, .bin o a b, S => tst m ((evE cf e false a S).bind fun x S => (evE cf e false b S).bind fun y S => Ro.opt (opD o S x y) S)
  | m, .neg a, S => tst m ((evE cf e false a S).bind fun x S => match x with
    | .int i => .ok (.int (-i)) S
    | _ => .stuck)
  | _, .cmp o a b, S => (evE cf e false a S).bind fun x S => (evE cf e false b S).bind fun y S => Ro.opt ((cmD o S x y).map .bl) S
  | _, .chn o o' a b c, S => (evE cf e false a S).bind fun x S => (evE cf e false b S).bind fun y S => (Ro.opt (cmD o S x y) S).bind fun k S =>
      if k then (evE cf e false c S).bind fun z S => Ro.opt ((cmD o' S y z).map .bl) S else .ok (.bl false) S
  | m, .and a b, S => (evE cf e m a S).bind fun x S => match x with
    | .bl true => evE cf e m b S
    | .bl false => .ok (.bl false) S
    | _ => .stuck
  | m, .or a b, S => (evE cf e m a S).bind fun x S => match x with
    | .bl true => .ok (.bl true) S
    | .bl false => evE cf e m b S
    | _ => .stuck
  | m, .not a, S => (evE cf e m a S).bind fun x S => match x with
    | .bl k => .ok (.bl (!k)) S
    | _ => .stuck
  | false, .ife c a b, S => (evE cf e true c S).bind fun x S => match x with
    | .bl true => evE cf e false a S
    | .bl false => evE cf e false b S
    | _ => .stuck
  | true, .ife _ _ _, _ => .stuck
  | m, .tup es, S => tst m ((evEs cf e es S).bind fun xs S => if xs.length ≤ SZ then .ok (.tup xs) S else .stuck)
  | m, .lst es, S => tst m ((evEs cf e es S).bind fun xs S => if xs.length ≤ SZ then .ok (.lst xs) S else .stuck)
  | m, .nls es, S => tst m ((evEs cf e es S).bind fun xs S => if xs.length ≤ SZ then .ok (.obj S.length) (S ++ [.lst xs]) else .stuck)
  | m, .edc, S => tst m (.ok .edc S)
  | m, .idx a i, S => tst m ((evE cf e false a S).bind fun x S => (evE cf e false i S).bind fun y S => Ro.opt (ixD S x y) S)
  | m, .slc a lo hi, S => tst m ((evE cf e false a S).bind fun x S => (evP cf e lo S).bind fun l S => (evP cf e hi S).bind fun u S => Ro.opt (slcD S x l u) S)
  | _, .abs, _ => .stuck
  | m, .call f es, S => tst m ((evEs cf e es S).bind fun xs S => cf.call f xs S)
  | m, .mc c f o es, S => tst m ((evE cf e false o S).bind fun x S => if isCls S x c then (evEs cf e es S).bind fun xs S => if isCls S x c then cf.call f (x :: xs) S else .stuck else .stuck)
  | m, .bi b a, S => tst m ((evE cf e false a S).bind fun x S => Ro.opt (biD b S x) S)
  | m, .nli a, S => tst m ((evE cf e false a S).bind fun x S => match biD .list S x with
    | some (.lst xs) => .ok (.obj S.length) (S ++ [.lst xs])
    | _ => .stuck)
  | m, .suml a, S => tst m ((evE cf e false a S).bind fun x S => match (x.items S).bind lstsOf with
    | some ls => if ls.flatten.length ≤ SZ then .ok (.lst ls.flatten) S else .stuck
    | none => .stuck)
  | m, .isi a ts, S => tst m ((evE cf e false a S).bind fun x S => Ro.opt ((isiD S x ts).map .bl) S)
  | m, .me k o es, S => tst m ((evE cf e false o S).bind fun x S => if meT k S x then (evEs cf e es S).bind fun xs S => meR (meD k S x xs) else .stuck)
  | m, .fld o f, S => tst m ((evE cf e false o S).bind fun x S => Ro.opt (fldD S x f) S)
  | m, .lc s t own ifs a, S => tst m ((evR cf e s S).bind fun p S =>
      (lcLoop (fun x S => (Ro.opt (bindT t x (wipe e own)) S).bind fun e' S => (evIf cf e' ifs S).bind fun k S => if k then (evE cf e' false a S).bind fun d S => .ok (some d) S else .ok none S) p.2 p.1 S).bind fun ys S =>
        if ys.length ≤ SZ then .ok (.lst ys) S else .stuck)
  | m, .mk c es, S => tst m ((evEs cf e es S).bind fun xs S => (cf.call (cf.init c) (.obj S.length :: xs) (S ++ [.ins c []])).bind fun d S' => match d with
    | .non => .ok (.obj S.length) S'
    | _ => .stuck)
  | m, .grd hs w a, S => tst m (grdD hs w (evE cf e false a S))
def evEs (cf : Cf) (e : Env) : Exs → Store → Ro (List D)
  | .nil, S => .ok [] S
  | .cons a r, S => (evE cf e false a S).bind fun x S => (evEs cf e r S).bind fun xs S => .ok (x :: xs) S
/-- the tests of a comprehension: one at most -/
def evIf (cf : Cf) (e : Env) : Exs → Store → Ro Bool
  | .nil, S => .ok true S
  | .cons a _, S => (evE cf e true a S).bind fun x S => match x with
    | .bl k => .ok k S
    | _ => .stuck
/-- a part of a slice -/
def evP (cf : Cf) (e : Env) : Ex → Store → Ro (Option Int)
  | .abs, S => .ok none S
  | .var i, S => (Ro.opt (e.get i) S).bind fun x S => Ro.opt (prt x) S
  | .lit d, S => Ro.opt (prt d) S
  | .bin o a b, S => ((evE cf e false a S).bind fun x S => (evE cf e false b S).bind fun y S => Ro.opt (opD o S x y) S).bind fun x S => Ro.opt (prt x) S
  | .idx a i, S => ((evE cf e false a S).bind fun x S => (evE cf e false i S).bind fun y S => Ro.opt (ixD S x y) S).bind fun x S => Ro.opt (prt x) S
  | .neg a, S => ((evE cf e false a S).bind fun x S => match x with
    | .int i => .ok (.int (-i)) S
    | _ => .stuck).bind fun x S => Ro.opt (prt x) S
  | .bi b a, S => ((evE cf e false a S).bind fun x S => Ro.opt (biD b S x) S).bind fun x S => Ro.opt (prt x) S
  | _, _ => .stuck
def evR (cf : Cf) (e : Env) : Sr → Store → Ro (List D × List (Nat × List D))
  | .val a, S => (evE cf e false a S).bind fun x S => match walkD S x with
    | some xs => .ok (xs, x.watch xs) S
    | none => .stuck
  | .rng a, S => (evE cf e false a S).bind fun x S => match x with
    | .int n => if -(2 ^ 62) ≤ n ∧ n < 2 ^ 62 then .ok ((List.range n.toNat).map fun k => D.int (k : Nat), []) S else .stuck
    | _ => .stuck
  | .enm a, S => (evE cf e false a S).bind fun x S => match x.row S with
    | some xs => .ok (pairs 0 xs, x.watch xs) S
    | none => .stuck
  | .enf a k, S => (evE cf e false a S).bind fun x S => match x.row S with
    | some xs => .ok (pairs k xs, x.watch xs) S
    | none => .stuck
  | .zip a b, S => (evE cf e false a S).bind fun x S => (evE cf e false b S).bind fun y S => match x, y with
    | .tup xs, .tup ys => .ok (zipD xs ys, []) S
    | x, y => (match x.items S, y.items S with
      | some xs, some ys => .ok (zipD xs ys, x.watch xs ++ y.watch ys) S
      | _, _ => .stuck)
end
mutual
def evS (cf : Cf) : Sm → Env → Store → Ro Fl
  | .set i a, e, S => (evE cf e false a S).bind fun x S => .ok (.nx (e.set i (some x))) S
  | .cat i a b, e, S => (evE cf e false a S).bind fun x S => (evE cf e false b S).bind fun y S => (match x.items S, y.items S with
    | some xs, some ys => if xs.length + ys.length ≤ SZ then .ok (.nx (e.set i (some (.obj S.length)))) (S ++ [.lst (xs ++ ys)]) else .stuck
    | _, _ => .stuck)
  | .par is es, e, S => (evEs cf e es S).bind fun xs S => if xs.length = is.length then .ok (.nx (setAll e is xs)) S else .stuck
  | .unp is a, e, S => (evE cf e false a S).bind fun x S => (Ro.opt (bindT (.tp is) x e) S).bind fun e S => .ok (.nx e) S
  | .aug i o a, e, S => (Ro.opt (e.get i) S).bind fun x S => (evE cf e false a S).bind fun y S => (augD o x y S).bind fun z S => .ok (.nx (e.set i (some z))) S
  | .sti o i a, e, S => (evE cf e false a S).bind fun d S => (evE cf e false o S).bind fun x S => (evE cf e false i S).bind fun k S => stiS x k d e S
  | .sfl o f a, e, S => (evE cf e false a S).bind fun d S => (evE cf e false o S).bind fun x S => sflS x f d e S
  | .afl o f p a, e, S => (evE cf e false o S).bind fun x S => (Ro.opt (fldC S x f) S).bind fun y S => (evE cf e false a S).bind fun z S => (augD p y.2 z S).bind fun d S => if isCls S x y.1 then sflS x f d e S else .stuck
  | .ex a, e, S => (evE cf e false a S).bind fun _ S => .ok (.nx e) S
  | .ret a, e, S => (evE cf e false a S).bind fun d S => .ok (.rt d) S
  | .retn, _, S => .ok (.rt .non) S
  | .ife c a b, e, S => (evE cf e true c S).bind fun x S => match x with
    | .bl true => evSs cf a e S
    | .bl false => evSs cf b e S
    | _ => .stuck
  | .whl c b, e, S => whlLoop (fun e S => evE cf e true c S) (fun e S => evSs cf b e S) FUEL e S
  | .for_ s t b, e, S => (evR cf e s S).bind fun p S => forLoop (fun x e S => (Ro.opt (bindT t x e) S).bind fun e S => evSs cf b e S) p.2 p.1 e S
  | .rse c es, e, S => (evEs cf e es S).bind fun xs S => .err c xs S
  | .pass, e, S => .ok (.nx e) S
  | .brk, e, S => .ok (.bk e) S
  | .cnt, e, S => .ok (.ct e) S
def evSs (cf : Cf) : Sms → Env → Store → Ro Fl
  | .nil, e, S => .ok (.nx e) S
  | .cons s r, e, S => (evS cf s e S).bind fun fl S => match fl with
    | .nx e => evSs cf r e S
    | fl => .ok fl S
end
/-- a def's body run -/
def runB (cf : Cf) (fn : Fn) (as : List D) (S : Store) : Ro D :=
  if as.length = fn.ar then (evSs cf fn.bd (as.map some ++ List.replicate (fn.sl - fn.ar) none) S).bind fun fl S => match fl with
    | .nx _ => .ok .non S
    | .rt d => .ok d S
    | _ => .stuck
  else .stuck
structure Pg where
  fns : List Fn
  gl : List D
  init : Nat → Nat
def Pg.cf (P : Pg) (call : Nat → List D → Store → Ro D) : Cf := ⟨P.gl, call, P.init⟩
/-- where nothing live goes in, nothing of the callee's live objects is left -/
def done (r : Ro D) (S : Store) : Ro D := match r with
  | .ok d S' => Ro.opt (frzD S' d) S
  | .err c as S' => (match mapO (frzD S') as with
    | some as => .err c as S
    | none => .stuck)
  | .stuck => .stuck
/-- a call, k calls deep at most -/
def callF (P : Pg) : Nat → Nat → List D → Store → Ro D
  | 0, _, _, _ => .stuck
  | k + 1, f, as, S => match P.fns[f]? with
    | none => .stuck
    | some fn => if fn.lv || !D.pures as then runB (P.cf (callF P k)) fn as S else done (runB (P.cf (callF P k)) fn as []) S
end Pv
namespace K85
open Pv
def b_is_text : Sms := (.cons (.ret (.and (.isi (.var 0) [.str]) (.and (.cmp .le (.bi .len (.var 0)) (.var 2)) (.cmp .eq (.lc (.val (.var 0)) (.nm 3) [3] (.cons (.cmp .nin (.var 3) (.var 1)) .nil) (.var 3)) (.lst .nil))))) .nil)
def b_is_name_1 : Sms := (.cons (.ret (.cmp .eq (.lc (.val (.var 0)) (.nm 1) [1] (.cons (.and (.cmp .nin (.var 1) (.glb 0)) (.cmp .nin (.var 1) (.glb 1))) .nil) (.var 1)) (.lst .nil))) .nil)
def b_is_name_0 : Sms := (.cons (.ife (.or (.not (.isi (.var 0) [.str])) (.or (.not (.chn .le .le (.lit (.int 1)) (.bi .len (.var 0)) (.lit (.int 8)))) (.or (.cmp .in_ (.var 0) (.glb 3)) (.cmp .nin (.idx (.var 0) (.lit (.int 0))) (.glb 0))))) (.cons (.ret (.lit (.bl false))) .nil) .nil) b_is_name_1)
def b_is_name : Sms := b_is_name_0
def b_is_deed_1 : Sms := (.cons (.ret (.and (.cmp .in_ (.idx (.var 0) (.lit (.int 0))) (.glb 4)) (.cmp .eq (.bi .len (.var 0)) (.idx (.glb 4) (.idx (.var 0) (.lit (.int 0))))))) .nil)
def b_is_deed_0 : Sms := (.cons (.ife (.or (.not (.isi (.var 0) [.list, .tuple])) (.or (.not (.var 0)) (.not (.isi (.idx (.var 0) (.lit (.int 0))) [.str])))) (.cons (.ret (.lit (.bl false))) .nil) .nil) b_is_deed_1)
def b_is_deed : Sms := b_is_deed_0
def b_is_lines : Sms := (.cons (.ret (.and (.isi (.var 0) [.str]) (.and (.cmp .le (.bi .len (.var 0)) (.glb 5)) (.or (.cmp .eq (.var 0) (.lit (.str []))) (.cmp .eq (.idx (.var 0) (.neg (.lit (.int 1)))) (.lit (.str [10]))))))) .nil)
def b_is_flat_3 : Sms := (.cons (.ret (.and (.isi (.var 0) [.int]) (.and (.not (.isi (.var 0) [.bool])) (.cmp .le (.bi .len (.me .lstrip (.bi .str (.var 0)) (.cons (.lit (.str [45])) .nil))) (.glb 8))))) .nil)
def b_is_flat_2 : Sms := (.cons (.ife (.isi (.var 0) [.list, .tuple]) (.cons (.ret (.and (.cmp .gt (.var 1) (.lit (.int 0))) (.cmp .eq (.lc (.val (.var 0)) (.nm 2) [2] (.cons (.not (.call 4 (.cons (.var 2) (.cons (.bin .sub (.var 1) (.lit (.int 1))) .nil)))) .nil) (.var 2)) (.lst .nil)))) .nil) .nil) b_is_flat_3)
def b_is_flat_1 : Sms := (.cons (.ife (.isi (.var 0) [.str]) (.cons (.ret (.call 0 (.cons (.var 0) (.cons (.glb 2) (.cons (.glb 5) .nil))))) .nil) .nil) b_is_flat_2)
def b_is_flat_0 : Sms := (.cons (.ife (.cmp .is_ (.var 0) (.lit .non)) (.cons (.ret (.lit (.bl true))) .nil) .nil) b_is_flat_1)
def b_is_flat : Sms := b_is_flat_0
def b_flat_word_3 : Sms := (.cons (.ret (.bi .str (.var 0))) .nil)
def b_flat_word_2a_1 : Sms := (.cons (.ret (.bin .add (.bin .add (.idx (.var 1) (.lit (.int 0))) (.me .join (.lit (.str [])) (.cons (.lc (.val (.var 0)) (.nm 2) [2] .nil (.bin .add (.call 5 (.cons (.var 2) .nil)) (.lit (.str [44])))) .nil))) (.idx (.var 1) (.lit (.int 1))))) .nil)
def b_flat_word_2a_0 : Sms := (.cons (.set 1 (.ife (.isi (.var 0) [.list]) (.lit (.str [91, 93])) (.lit (.str [40, 41])))) b_flat_word_2a_1)
def b_flat_word_2 : Sms := (.cons (.ife (.isi (.var 0) [.list, .tuple]) b_flat_word_2a_0 .nil) b_flat_word_3)
def b_flat_word_1 : Sms := (.cons (.ife (.isi (.var 0) [.str]) (.cons (.ret (.bin .add (.bin .add (.lit (.str [34])) (.var 0)) (.lit (.str [34])))) .nil) .nil) b_flat_word_2)
def b_flat_word_0 : Sms := (.cons (.ife (.cmp .is_ (.var 0) (.lit .non)) (.cons (.ret (.lit (.str [78]))) .nil) .nil) b_flat_word_1)
def b_flat_word : Sms := b_flat_word_0
def b_number_at_5 : Sms := (.cons (.ret (.tup (.cons (.bi .int (.slc (.var 0) (.var 1) (.var 3))) (.cons (.var 3) .nil)))) .nil)
def b_number_at_4 : Sms := (.cons (.ife (.or (.not (.chn .le .le (.lit (.int 1)) (.bi .len (.var 4)) (.glb 8))) (.and (.cmp .eq (.idx (.var 4) (.lit (.int 0))) (.lit (.str [48]))) (.or (.cmp .ne (.var 4) (.lit (.str [48]))) (.cmp .gt (.var 2) (.var 1))))) (.cons (.ret (.lit .non)) .nil) .nil) b_number_at_5)
def b_number_at_3 : Sms := (.cons (.set 4 (.slc (.var 0) (.var 2) (.var 3))) b_number_at_4)
def b_number_at_2c : Ex := (.and (.cmp .lt (.var 3) (.bi .len (.var 0))) (.cmp .in_ (.idx (.var 0) (.var 3)) (.glb 1)))
def b_number_at_2a_0 : Sms := (.cons (.aug 3 .add (.lit (.int 1))) .nil)
def b_number_at_2 : Sms := (.cons (.whl b_number_at_2c b_number_at_2a_0) b_number_at_3)
def b_number_at_1 : Sms := (.cons (.set 3 (.var 2)) b_number_at_2)
def b_number_at_0 : Sms := (.cons (.set 2 (.ife (.cmp .eq (.slc (.var 0) (.var 1) (.bin .add (.var 1) (.lit (.int 1)))) (.lit (.str [45]))) (.bin .add (.var 1) (.lit (.int 1))) (.var 1))) b_number_at_1)
def b_number_at : Sms := b_number_at_0
def b_row_at_2 : Sms := (.cons (.ret (.tup (.cons (.ife (.cmp .eq (.var 3) (.lit (.str [41]))) (.bi .tuple (.var 4)) (.var 4)) (.cons (.bin .add (.var 5) (.lit (.int 1))) .nil)))) .nil)
def b_row_at_1c : Ex := (.cmp .ne (.slc (.var 0) (.var 5) (.bin .add (.var 5) (.lit (.int 1)))) (.var 3))
def b_row_at_1a_3 : Sms := (.cons (.set 5 (.bin .add (.idx (.var 6) (.lit (.int 1))) (.lit (.int 1)))) .nil)
def b_row_at_1a_2 : Sms := (.cons (.ex (.me .append (.var 4) (.cons (.idx (.var 6) (.lit (.int 0))) .nil))) b_row_at_1a_3)
def b_row_at_1a_1 : Sms := (.cons (.ife (.or (.cmp .is_ (.var 6) (.lit .non)) (.cmp .ne (.slc (.var 0) (.idx (.var 6) (.lit (.int 1))) (.bin .add (.idx (.var 6) (.lit (.int 1))) (.lit (.int 1)))) (.lit (.str [44])))) (.cons (.ret (.lit .non)) .nil) .nil) b_row_at_1a_2)
def b_row_at_1a_0 : Sms := (.cons (.set 6 (.call 8 (.cons (.var 0) (.cons (.var 5) (.cons (.bin .sub (.var 2) (.lit (.int 1))) .nil))))) b_row_at_1a_1)
def b_row_at_1 : Sms := (.cons (.whl b_row_at_1c b_row_at_1a_0) b_row_at_2)
def b_row_at_0 : Sms := (.cons (.par [3, 4, 5] (.cons (.ife (.cmp .eq (.idx (.var 0) (.var 1)) (.lit (.str [40]))) (.lit (.str [41])) (.lit (.str [93]))) (.cons (.nls .nil) (.cons (.bin .add (.var 1) (.lit (.int 1))) .nil)))) b_row_at_1)
def b_row_at : Sms := b_row_at_0
def b_thing_at_4 : Sms := (.cons (.ret (.call 6 (.cons (.var 0) (.cons (.var 1) .nil)))) .nil)
def b_thing_at_3 : Sms := (.cons (.ife (.cmp .in_ (.var 3) (.tup (.cons (.lit (.str [40])) (.cons (.lit (.str [91])) .nil)))) (.cons (.ret (.ife (.cmp .gt (.var 2) (.lit (.int 0))) (.call 7 (.cons (.var 0) (.cons (.var 1) (.cons (.var 2) .nil)))) (.lit .non))) .nil) .nil) b_thing_at_4)
def b_thing_at_2a_2 : Sms := (.cons (.ret (.ife (.var 5) (.tup (.cons (.slc (.var 0) (.bin .add (.var 1) (.lit (.int 1))) (.var 4)) (.cons (.bin .add (.var 4) (.lit (.int 1))) .nil))) (.lit .non))) .nil)
def b_thing_at_2a_1 : Sms := (.cons (.set 5 (.and (.cmp .gt (.var 4) (.lit (.int 0))) (.call 0 (.cons (.slc (.var 0) (.bin .add (.var 1) (.lit (.int 1))) (.var 4)) (.cons (.glb 2) (.cons (.glb 5) .nil)))))) b_thing_at_2a_2)
def b_thing_at_2a_0 : Sms := (.cons (.set 4 (.me .find (.var 0) (.cons (.lit (.str [34])) (.cons (.bin .add (.var 1) (.lit (.int 1))) .nil)))) b_thing_at_2a_1)
def b_thing_at_2 : Sms := (.cons (.ife (.cmp .eq (.var 3) (.lit (.str [34]))) b_thing_at_2a_0 .nil) b_thing_at_3)
def b_thing_at_1 : Sms := (.cons (.ife (.cmp .eq (.var 3) (.lit (.str [78]))) (.cons (.ret (.tup (.cons (.lit .non) (.cons (.bin .add (.var 1) (.lit (.int 1))) .nil)))) .nil) .nil) b_thing_at_2)
def b_thing_at_0 : Sms := (.cons (.set 3 (.slc (.var 0) (.var 1) (.bin .add (.var 1) (.lit (.int 1))))) b_thing_at_1)
def b_thing_at : Sms := b_thing_at_0
def b_plain_deed_3 : Sms := (.cons (.ret (.bi .tuple (.var 0))) .nil)
def b_plain_deed_2 : Sms := (.cons (.ife (.or (.not (.call 1 (.cons (.idx (.var 0) (.lit (.int 1))) .nil))) (.and (.cmp .eq (.idx (.var 0) (.lit (.int 0))) (.lit (.str [112, 117, 116]))) (.not (.and (.call 1 (.cons (.idx (.var 0) (.lit (.int 2))) .nil)) (.call 4 (.cons (.idx (.var 0) (.lit (.int 3))) (.cons (.glb 7) .nil))))))) (.cons (.ret (.lit .non)) .nil) .nil) b_plain_deed_3)
def b_plain_deed_1 : Sms := (.cons (.ife (.cmp .eq (.idx (.var 0) (.lit (.int 0))) (.lit (.str [99, 104, 97, 110, 103, 101]))) (.cons (.ret (.ife (.call 3 (.cons (.idx (.var 0) (.lit (.int 1))) .nil)) (.bi .tuple (.var 0)) (.lit .non))) .nil) .nil) b_plain_deed_2)
def b_plain_deed_0 : Sms := (.cons (.ife (.not (.call 2 (.cons (.var 0) .nil))) (.cons (.ret (.lit .non)) .nil) .nil) b_plain_deed_1)
def b_plain_deed : Sms := b_plain_deed_0
def b_deed_lines_3 : Sms := (.cons (.ret (.bin .add (.lst (.cons (.me .join (.lit (.str [32])) (.cons (.lst (.cons (.lit (.str [99, 104, 97, 110, 103, 101])) (.cons (.bi .str (.bi .len (.var 1))) .nil))) .nil)) .nil)) (.lc (.val (.var 1)) (.nm 2) [2] .nil (.bin .add (.glb 6) (.var 2))))) .nil)
def b_deed_lines_2 : Sms := (.cons (.set 1 (.slc (.me .split (.idx (.var 0) (.lit (.int 1))) (.cons (.lit (.str [10])) .nil)) .abs (.neg (.lit (.int 1))))) b_deed_lines_3)
def b_deed_lines_1 : Sms := (.cons (.ife (.cmp .eq (.idx (.var 0) (.lit (.int 0))) (.lit (.str [100, 114, 111, 112]))) (.cons (.ret (.lst (.cons (.me .join (.lit (.str [32])) (.cons (.var 0) .nil)) .nil))) .nil) .nil) b_deed_lines_2)
def b_deed_lines_0 : Sms := (.cons (.ife (.cmp .eq (.idx (.var 0) (.lit (.int 0))) (.lit (.str [112, 117, 116]))) (.cons (.ret (.lst (.cons (.me .join (.lit (.str [32])) (.cons (.lst (.cons (.lit (.str [112, 117, 116])) (.cons (.idx (.var 0) (.lit (.int 1))) (.cons (.idx (.var 0) (.lit (.int 2))) (.cons (.call 5 (.cons (.idx (.var 0) (.lit (.int 3))) .nil)) .nil))))) .nil)) .nil))) .nil) .nil) b_deed_lines_1)
def b_deed_lines : Sms := b_deed_lines_0
def b_deeds_text_3 : Sms := (.cons (.ret (.me .join (.lit (.str [])) (.cons (.lc (.val (.var 1)) (.nm 5) [5] .nil (.bin .add (.var 5) (.lit (.str [10])))) .nil))) .nil)
def b_deeds_text_2a_2 : Sms := (.cons (.ex (.me .extend (.var 1) (.cons (.call 10 (.cons (.var 4) .nil)) .nil))) .nil)
def b_deeds_text_2a_1 : Sms := (.cons (.ife (.cmp .is_ (.var 4) (.lit .non)) (.cons (.rse 0 (.cons (.var 2) .nil)) .nil) .nil) b_deeds_text_2a_2)
def b_deeds_text_2a_0 : Sms := (.cons (.set 4 (.call 9 (.cons (.var 3) .nil))) b_deeds_text_2a_1)
def b_deeds_text_2 : Sms := (.cons (.for_ (.enm (.var 0)) (.tp [2, 3]) b_deeds_text_2a_0) b_deeds_text_3)
def b_deeds_text_1 : Sms := (.cons (.set 1 (.nls .nil)) b_deeds_text_2)
def b_deeds_text_0 : Sms := (.cons (.ife (.not (.isi (.var 0) [.list, .tuple])) (.cons (.rse 0 (.cons (.lit (.int 0)) .nil)) .nil) .nil) b_deeds_text_1)
def b_deeds_text : Sms := b_deeds_text_0
def b_figure_of_1 : Sms := (.cons (.ret (.bi .int (.var 0))) .nil)
def b_figure_of_0 : Sms := (.cons (.ife (.or (.not (.chn .le .le (.lit (.int 1)) (.bi .len (.var 0)) (.lit (.int 4)))) (.or (.lc (.val (.var 0)) (.nm 1) [1] (.cons (.cmp .nin (.var 1) (.glb 1)) .nil) (.var 1)) (.and (.cmp .eq (.idx (.var 0) (.lit (.int 0))) (.lit (.str [48]))) (.cmp .ne (.var 0) (.lit (.str [48])))))) (.cons (.ret (.lit .non)) .nil) .nil) b_figure_of_1)
def b_figure_of : Sms := b_figure_of_0
def b_DeedReading___init___2 : Sms := (.cons (.sfl (.var 0) 2 (.nls .nil)) .nil)
def b_DeedReading___init___1 : Sms := (.cons (.sfl (.var 0) 1 (.lit (.int 0))) b_DeedReading___init___2)
def b_DeedReading___init___0 : Sms := (.cons (.sfl (.var 0) 0 (.nls .nil)) b_DeedReading___init___1)
def b_DeedReading___init__ : Sms := b_DeedReading___init___0
def b_DeedReading_close_1 : Sms := (.cons (.sfl (.var 0) 2 (.nls .nil)) .nil)
def b_DeedReading_close_0 : Sms := (.cons (.ex (.me .append (.fld (.var 0) 0) (.cons (.tup (.cons (.lit (.str [99, 104, 97, 110, 103, 101])) (.cons (.me .join (.lit (.str [])) (.cons (.lc (.val (.fld (.var 0) 2)) (.nm 1) [1] .nil (.bin .add (.var 1) (.lit (.str [10])))) .nil)) .nil))) .nil))) b_DeedReading_close_1)
def b_DeedReading_close : Sms := b_DeedReading_close_0
def b_DeedReading_take_line_4 : Sms := (.cons (.ret (.lit (.bl true))) .nil)
def b_DeedReading_take_line_3 : Sms := (.cons (.ife (.cmp .eq (.fld (.var 0) 1) (.lit (.int 0))) (.cons (.ex (.mc 0 14 (.var 0) .nil)) .nil) .nil) b_DeedReading_take_line_4)
def b_DeedReading_take_line_2 : Sms := (.cons (.ife (.or (.cmp .ne (.slc (.var 1) .abs (.lit (.int 1))) (.glb 6)) (.cmp .gt (.bin .add (.bi .sum (.lc (.val (.fld (.var 0) 2)) (.nm 2) [2] .nil (.bin .add (.bi .len (.var 2)) (.lit (.int 1))))) (.fld (.var 0) 1)) (.glb 5))) (.cons (.ret (.lit (.bl false))) .nil) .nil) b_DeedReading_take_line_3)
def b_DeedReading_take_line_1 : Sms := (.cons (.ex (.me .append (.fld (.var 0) 2) (.cons (.slc (.var 1) (.lit (.int 1)) .abs) .nil))) b_DeedReading_take_line_2)
def b_DeedReading_take_line_0 : Sms := (.cons (.afl (.var 0) 1 .sub (.lit (.int 1))) b_DeedReading_take_line_1)
def b_DeedReading_take_line : Sms := b_DeedReading_take_line_0
def b_DeedReading_take_put_6 : Sms := (.cons (.ret (.lit (.bl true))) .nil)
def b_DeedReading_take_put_5 : Sms := (.cons (.ex (.me .append (.fld (.var 0) 0) (.cons (.tup (.cons (.lit (.str [112, 117, 116])) (.cons (.idx (.var 2) (.lit (.int 1))) (.cons (.idx (.var 2) (.lit (.int 2))) (.cons (.idx (.var 4) (.lit (.int 0))) .nil))))) .nil))) b_DeedReading_take_put_6)
def b_DeedReading_take_put_4 : Sms := (.cons (.ife (.or (.cmp .is_ (.var 4) (.lit .non)) (.cmp .ne (.idx (.var 4) (.lit (.int 1))) (.bi .len (.var 3)))) (.cons (.ret (.lit (.bl false))) .nil) .nil) b_DeedReading_take_put_5)
def b_DeedReading_take_put_3 : Sms := (.cons (.set 4 (.call 8 (.cons (.var 3) (.cons (.lit (.int 0)) (.cons (.glb 7) .nil))))) b_DeedReading_take_put_4)
def b_DeedReading_take_put_2 : Sms := (.cons (.set 3 (.slc (.var 1) (.bin .add (.bin .add (.bi .len (.idx (.var 2) (.lit (.int 1)))) (.bi .len (.idx (.var 2) (.lit (.int 2))))) (.lit (.int 6))) .abs)) b_DeedReading_take_put_3)
def b_DeedReading_take_put_1 : Sms := (.cons (.ife (.or (.cmp .lt (.bi .len (.var 2)) (.lit (.int 4))) (.or (.not (.call 1 (.cons (.idx (.var 2) (.lit (.int 1))) .nil))) (.not (.call 1 (.cons (.idx (.var 2) (.lit (.int 2))) .nil))))) (.cons (.ret (.lit (.bl false))) .nil) .nil) b_DeedReading_take_put_2)
def b_DeedReading_take_put_0 : Sms := (.cons (.set 2 (.me .split (.var 1) (.cons (.lit (.str [32])) .nil))) b_DeedReading_take_put_1)
def b_DeedReading_take_put : Sms := b_DeedReading_take_put_0
def b_DeedReading_take_8 : Sms := (.cons (.ret (.lit (.bl true))) .nil)
def b_DeedReading_take_7 : Sms := (.cons (.ife (.cmp .eq (.var 3) (.lit (.int 0))) (.cons (.ex (.mc 0 14 (.var 0) .nil)) .nil) .nil) b_DeedReading_take_8)
def b_DeedReading_take_6 : Sms := (.cons (.sfl (.var 0) 1 (.var 3)) b_DeedReading_take_7)
def b_DeedReading_take_5 : Sms := (.cons (.ife (.or (.cmp .is_ (.var 3) (.lit .non)) (.cmp .gt (.var 3) (.glb 5))) (.cons (.ret (.lit (.bl false))) .nil) .nil) b_DeedReading_take_6)
def b_DeedReading_take_4 : Sms := (.cons (.set 3 (.ife (.and (.cmp .eq (.idx (.var 2) (.lit (.int 0))) (.lit (.str [99, 104, 97, 110, 103, 101]))) (.cmp .eq (.bi .len (.var 2)) (.lit (.int 2)))) (.call 12 (.cons (.idx (.var 2) (.lit (.int 1))) .nil)) (.lit .non))) b_DeedReading_take_5)
def b_DeedReading_take_3a_1 : Sms := (.cons (.ret (.lit (.bl true))) .nil)
def b_DeedReading_take_3a_0 : Sms := (.cons (.ex (.me .append (.fld (.var 0) 0) (.cons (.bi .tuple (.var 2)) .nil))) b_DeedReading_take_3a_1)
def b_DeedReading_take_3 : Sms := (.cons (.ife (.and (.cmp .eq (.idx (.var 2) (.lit (.int 0))) (.lit (.str [100, 114, 111, 112]))) (.and (.cmp .eq (.bi .len (.var 2)) (.lit (.int 2))) (.call 1 (.cons (.idx (.var 2) (.lit (.int 1))) .nil)))) b_DeedReading_take_3a_0 .nil) b_DeedReading_take_4)
def b_DeedReading_take_2 : Sms := (.cons (.ife (.cmp .eq (.idx (.var 2) (.lit (.int 0))) (.lit (.str [112, 117, 116]))) (.cons (.ret (.mc 0 16 (.var 0) (.cons (.var 1) .nil))) .nil) .nil) b_DeedReading_take_3)
def b_DeedReading_take_1 : Sms := (.cons (.set 2 (.me .split (.var 1) (.cons (.lit (.str [32])) .nil))) b_DeedReading_take_2)
def b_DeedReading_take_0 : Sms := (.cons (.ife (.fld (.var 0) 1) (.cons (.ret (.mc 0 15 (.var 0) (.cons (.var 1) .nil))) .nil) .nil) b_DeedReading_take_1)
def b_DeedReading_take : Sms := b_DeedReading_take_0
def b_lines_read_5 : Sms := (.cons (.ret (.tup (.cons (.fld (.var 1) 0) (.cons (.ife (.fld (.var 1) 1) (.lit (.int 0)) (.lit .non)) .nil)))) .nil)
def b_lines_read_4 : Sms := (.cons (.ife (.cmp .ne (.idx (.var 2) (.neg (.lit (.int 1)))) (.lit (.str []))) (.cons (.ret (.tup (.cons (.lst .nil) (.cons (.bi .len (.var 2)) .nil)))) .nil) .nil) b_lines_read_5)
def b_lines_read_3a_0 : Sms := (.cons (.ife (.not (.mc 0 17 (.var 1) (.cons (.var 4) .nil))) (.cons (.ret (.tup (.cons (.lst .nil) (.cons (.var 3) .nil)))) .nil) .nil) .nil)
def b_lines_read_3 : Sms := (.cons (.for_ (.enf (.slc (.var 2) .abs (.neg (.lit (.int 1)))) 1) (.tp [3, 4]) b_lines_read_3a_0) b_lines_read_4)
def b_lines_read_2 : Sms := (.cons (.set 2 (.me .split (.var 0) (.cons (.lit (.str [10])) .nil))) b_lines_read_3)
def b_lines_read_1 : Sms := (.cons (.ife (.not (.isi (.var 0) [.str])) (.cons (.ret (.tup (.cons (.lst .nil) (.cons (.lit (.int 0)) .nil)))) .nil) .nil) b_lines_read_2)
def b_lines_read_0 : Sms := (.cons (.set 1 (.mk 0 .nil)) b_lines_read_1)
def b_lines_read : Sms := b_lines_read_0
def b_deeds_fault : Sms := (.cons (.ret (.idx (.call 18 (.cons (.var 0) .nil)) (.lit (.int 1)))) .nil)
def b_read_deeds_2 : Sms := (.cons (.ret (.var 1)) .nil)
def b_read_deeds_1 : Sms := (.cons (.ife (.cmp .isn (.var 2) (.lit .non)) (.cons (.rse 1 (.cons (.var 2) .nil)) .nil) .nil) b_read_deeds_2)
def b_read_deeds_0 : Sms := (.cons (.unp [1, 2] (.call 18 (.cons (.var 0) .nil))) b_read_deeds_1)
def b_read_deeds : Sms := b_read_deeds_0
def b__law_mbent_12 : Sms := (.cons (.ret (.ife (.and (.cmp .eq (.var 7) (.lit (.int 7))) (.cmp .ne (.var 5) (.lit (.str [])))) (.slc (.var 5) .abs (.bin .sub (.bi .len (.var 5)) (.lit (.int 1)))) (.var 5))) .nil)
def b__law_mbent_11a_1 : Sms := (.cons (.ret (.bin .add (.bin .add (.slc (.var 5) .abs (.var 4)) (.call 25 (.cons (.var 0) (.cons (.bi .list (.lit (.str [32, 10, 97, 98, 48, 49, 119, 45, 42, 9]))) .nil)))) (.slc (.var 5) (.bin .add (.var 4) (.call 24 (.cons (.var 0) (.cons (.lit (.int 2)) .nil)))) .abs))) .nil)
def b__law_mbent_11a_0 : Sms := (.cons (.set 4 (.call 24 (.cons (.var 0) (.cons (.bin .add (.bi .len (.var 5)) (.lit (.int 1))) .nil)))) b__law_mbent_11a_1)
def b__law_mbent_11 : Sms := (.cons (.ife (.cmp .eq (.var 7) (.lit (.int 6))) b__law_mbent_11a_0 .nil) b__law_mbent_12)
def b__law_mbent_10 : Sms := (.cons (.set 5 (.me .join (.lit (.str [])) (.cons (.lc (.val (.var 1)) (.nm 8) [8] .nil (.bin .add (.var 8) (.lit (.str [10])))) .nil))) b__law_mbent_11)
def b__law_mbent_9 : Sms := (.cons (.ife (.cmp .eq (.var 7) (.lit (.int 5))) (.cons (.set 1 (.slc (.var 1) .abs (.var 6))) .nil) .nil) b__law_mbent_10)
def b__law_mbent_8 : Sms := (.cons (.ife (.and (.cmp .eq (.var 7) (.lit (.int 4))) (.cmp .gt (.var 6) (.lit (.int 0)))) (.cons (.set 1 (.bin .add (.bin .add (.slc (.var 1) .abs (.bin .sub (.var 6) (.lit (.int 1)))) (.lst (.cons (.idx (.var 1) (.var 6)) (.cons (.idx (.var 1) (.bin .sub (.var 6) (.lit (.int 1)))) .nil)))) (.slc (.var 1) (.bin .add (.var 6) (.lit (.int 1))) .abs))) .nil) .nil) b__law_mbent_9)
def b__law_mbent_7 : Sms := (.cons (.ife (.cmp .eq (.var 7) (.lit (.int 3))) (.cons (.set 1 (.bin .add (.slc (.var 1) .abs (.bin .add (.var 6) (.lit (.int 1)))) (.slc (.var 1) (.var 6) .abs))) .nil) .nil) b__law_mbent_8)
def b__law_mbent_6 : Sms := (.cons (.ife (.cmp .eq (.var 7) (.lit (.int 2))) (.cons (.set 1 (.bin .add (.slc (.var 1) .abs (.var 6)) (.slc (.var 1) (.bin .add (.var 6) (.lit (.int 1))) .abs))) .nil) .nil) b__law_mbent_7)
def b__law_mbent_5 : Sms := (.cons (.set 1 (.bin .add (.bin .add (.slc (.var 1) .abs (.var 6)) (.lst (.cons (.me .join (.lit (.str [32])) (.cons (.var 3) .nil)) .nil))) (.slc (.var 1) (.bin .add (.var 6) (.lit (.int 1))) .abs))) b__law_mbent_6)
def b__law_mbent_4 : Sms := (.cons (.ife (.cmp .in_ (.var 7) (.tup (.cons (.lit (.int 1)) (.cons (.lit (.int 8)) .nil)))) (.cons (.set 3 (.bin .add (.bin .add (.slc (.var 3) .abs (.var 4)) (.lst (.cons (.call 25 (.cons (.var 0) (.cons (.bin .add (.var 2) (.var 3)) .nil))) .nil))) (.slc (.var 3) (.bin .add (.var 4) (.bi .int (.cmp .eq (.var 7) (.lit (.int 8))))) .abs))) .nil) .nil) b__law_mbent_5)
def b__law_mbent_3 : Sms := (.cons (.ife (.cmp .eq (.var 7) (.lit (.int 0))) (.cons (.set 3 (.bin .add (.slc (.var 3) .abs (.var 4)) (.slc (.var 3) (.bin .add (.var 4) (.lit (.int 1))) .abs))) .nil) .nil) b__law_mbent_4)
def b__law_mbent_2 : Sms := (.cons (.set 4 (.call 24 (.cons (.var 0) (.cons (.bi .len (.var 3)) .nil)))) b__law_mbent_3)
def b__law_mbent_1 : Sms := (.cons (.set 3 (.me .split (.idx (.var 1) (.var 6)) (.cons (.lit (.str [32])) .nil))) b__law_mbent_2)
def b__law_mbent_0 : Sms := (.cons (.par [6, 7] (.cons (.call 24 (.cons (.var 0) (.cons (.bi .len (.var 1)) .nil))) (.cons (.call 24 (.cons (.var 0) (.cons (.lit (.int 9)) .nil))) .nil))) b__law_mbent_1)
def b__law_mbent : Sms := b__law_mbent_0
def b__law_mtext : Sms := (.cons (.ret (.me .join (.lit (.str [])) (.cons (.lc (.val (.var 0)) (.nm 1) [1] .nil (.bin .add (.var 1) (.lit (.str [10])))) .nil))) .nil)
def b__law_start : Sms := (.cons (.ret (.nls (.cons (.nli (.var 0)) (.cons (.lit (.int 0)) (.cons (.lit (.int 0)) (.cons (.lit (.int 43)) .nil)))))) .nil)
def b__law_below_4 : Sms := (.cons (.ret (.bin .mod (.bin .mod (.bi .int (.bin .pow (.bin .add (.bin .add (.bin .mul (.var 2) (.lit (.int 44089))) (.bin .mul (.lit (.int 60077)) (.idx (.var 0) (.lit (.int 2))))) (.lit (.int 47))) (.lit (.int 3)))) (.lit (.int 1000000007))) (.var 1))) .nil)
def b__law_below_3 : Sms := (.cons (.set 2 (.bin .mod (.bi .int (.bin .pow (.bin .add (.bin .add (.idx (.var 0) (.lit (.int 3))) (.bin .mul (.lit (.int 9049)) (.idx (.var 0) (.lit (.int 2))))) (.lit (.int 130073))) (.lit (.int 5)))) (.lit (.int 2147483629)))) b__law_below_4)
def b__law_below_2a_2 : Sms := (.cons (.ret (.var 4)) .nil)
def b__law_below_2a_1 : Sms := (.cons (.sti (.var 0) (.lit (.int 1)) (.bin .fdiv (.idx (.var 0) (.lit (.int 1))) (.var 1))) b__law_below_2a_2)
def b__law_below_2a_0 : Sms := (.cons (.set 4 (.bin .mod (.bi .int (.idx (.var 0) (.lit (.int 1)))) (.var 1))) b__law_below_2a_1)
def b__law_below_2 : Sms := (.cons (.ife (.cmp .gt (.idx (.var 0) (.lit (.int 1))) (.lit (.int 0))) b__law_below_2a_0 .nil) b__law_below_3)
def b__law_below_1c : Ex := (.and (.cmp .eq (.idx (.var 0) (.lit (.int 1))) (.lit (.int 0))) (.cmp .ne (.idx (.var 0) (.lit (.int 0))) (.lst .nil)))
def b__law_below_1a_2 : Sms := (.cons (.sti (.var 0) (.lit (.int 1)) (.ife (.cmp .ge (.var 3) (.bin .pow (.lit (.int 10)) (.lit (.int 18)))) (.var 3) (.lit (.int 0)))) .nil)
def b__law_below_1a_1 : Sms := (.cons (.sti (.var 0) (.lit (.int 3)) (.bin .mod (.bi .int (.bin .add (.bin .add (.bin .mul (.idx (.var 0) (.lit (.int 3))) (.lit (.int 69031))) (.var 3)) (.lit (.int 13)))) (.lit (.int 2147483647)))) b__law_below_1a_2)
def b__law_below_1a_0 : Sms := (.cons (.set 3 (.me .popAt (.idx (.var 0) (.lit (.int 0))) (.cons (.lit (.int 0)) .nil))) b__law_below_1a_1)
def b__law_below_1 : Sms := (.cons (.whl b__law_below_1c b__law_below_1a_0) b__law_below_2)
def b__law_below_0 : Sms := (.cons (.sti (.var 0) (.lit (.int 2)) (.bin .add (.idx (.var 0) (.lit (.int 2))) (.lit (.int 1)))) b__law_below_1)
def b__law_below : Sms := b__law_below_0
def b__law_pick : Sms := (.cons (.ret (.idx (.var 1) (.call 24 (.cons (.var 0) (.cons (.bi .len (.var 1)) .nil))))) .nil)
def b__law_copied_3 : Sms := (.cons (.ret (.ife (.isi (.var 0) [.list]) (.var 1) (.bi .tuple (.var 1)))) .nil)
def b__law_copied_2 : Sms := (.cons (.set 1 (.lc (.val (.var 0)) (.nm 2) [2] .nil (.call 26 (.cons (.var 2) .nil)))) b__law_copied_3)
def b__law_copied_1 : Sms := (.cons (.ife (.not (.isi (.var 0) [.list, .tuple])) (.cons (.ret (.var 0)) .nil) .nil) b__law_copied_2)
def b__law_copied_0 : Sms := (.cons (.ife (.isi (.var 0) [.dict]) (.cons (.ret .abs) .nil) .nil) b__law_copied_1)
def b__law_copied : Sms := b__law_copied_0
def b__law_same_5 : Sms := (.cons (.ret (.and (.not (.isi (.var 0) [.int, .str, .list, .tuple, .dict])) (.cmp .eq (.var 0) (.var 1)))) .nil)
def b__law_same_4 : Sms := (.cons (.ife (.isi (.var 1) [.str]) (.cons (.ret (.and (.isi (.var 0) [.str]) (.cmp .eq (.var 0) (.var 1)))) .nil) .nil) b__law_same_5)
def b__law_same_3 : Sms := (.cons (.ife (.cmp .is_ (.var 1) (.lit .non)) (.cons (.ret (.cmp .is_ (.var 0) (.lit .non))) .nil) .nil) b__law_same_4)
def b__law_same_2 : Sms := (.cons (.ife (.isi (.var 1) [.int]) (.cons (.ret (.and (.isi (.var 0) [.int]) (.and (.cmp .eq (.isi (.var 0) [.bool]) (.isi (.var 1) [.bool])) (.cmp .eq (.var 0) (.var 1))))) .nil) .nil) b__law_same_3)
def b__law_same_1 : Sms := (.cons (.ife (.isi (.var 1) [.dict]) (.cons (.ret .abs) .nil) .nil) b__law_same_2)
def b__law_same_0a_1 : Sms := (.cons (.ret (.and (.cmp .eq (.bi .len (.var 0)) (.bi .len (.var 1))) (.bi .all (.lc (.zip (.var 0) (.var 1)) (.tp [2, 3]) [2, 3] .nil (.call 27 (.cons (.var 2) (.cons (.var 3) .nil))))))) .nil)
def b__law_same_0a_0 : Sms := (.cons (.ife (.or (.cmp .ne (.isi (.var 0) [.list]) (.isi (.var 1) [.list])) (.cmp .ne (.isi (.var 0) [.tuple]) (.isi (.var 1) [.tuple]))) (.cons (.ret (.lit (.bl false))) .nil) .nil) b__law_same_0a_1)
def b__law_same_0 : Sms := (.cons (.ife (.isi (.var 1) [.list, .tuple]) b__law_same_0a_0 .nil) b__law_same_1)
def b__law_same : Sms := b__law_same_0
def b__law_mthing_3 : Sms := (.cons (.ret (.ife (.cmp .eq (.var 2) (.lit (.int 4))) (.var 3) (.bi .tuple (.var 3)))) .nil)
def b__law_mthing_2 : Sms := (.cons (.set 3 (.lc (.rng (.call 24 (.cons (.var 0) (.cons (.lit (.int 3)) .nil)))) (.nm 4) [4] .nil (.call 28 (.cons (.var 0) (.cons (.bin .sub (.var 1) (.lit (.int 1))) .nil))))) b__law_mthing_3)
def b__law_mthing_1 : Sms := (.cons (.ife (.cmp .lt (.var 2) (.lit (.int 4))) (.cons (.ret (.call 25 (.cons (.var 0) (.cons (.lst (.cons (.lit .non) (.cons (.lit (.int 0)) (.cons (.lit (.int 7)) (.cons (.neg (.lit (.int 3))) (.cons (.lit (.int 120)) (.cons (.lit (.str [])) (.cons (.lit (.str [97])) (.cons (.lit (.str [97, 32, 98])) (.cons (.lit (.str [120, 59, 49])) (.cons (.lit (.str [60, 62, 40, 41, 91, 93, 44])) .nil))))))))))) .nil)))) .nil) .nil) b__law_mthing_2)
def b__law_mthing_0 : Sms := (.cons (.set 2 (.call 24 (.cons (.var 0) (.cons (.ife (.cmp .gt (.var 1) (.lit (.int 0))) (.lit (.int 7)) (.lit (.int 4))) .nil)))) b__law_mthing_1)
def b__law_mthing : Sms := b__law_mthing_0
def b__law_mflat_4 : Sms := (.cons (.ret (.ife (.isi (.var 0) [.list]) (.bin .add (.bin .add (.lit (.str [91])) (.var 1)) (.lit (.str [93]))) (.bin .add (.bin .add (.lit (.str [40])) (.var 1)) (.lit (.str [41]))))) .nil)
def b__law_mflat_3 : Sms := (.cons (.set 1 (.me .join (.lit (.str [])) (.cons (.lc (.val (.var 0)) (.nm 2) [2] .nil (.bin .add (.call 29 (.cons (.var 2) .nil)) (.lit (.str [44])))) .nil))) b__law_mflat_4)
def b__law_mflat_2 : Sms := (.cons (.ife (.isi (.var 0) [.int]) (.cons (.ret (.bi .str (.var 0))) .nil) .nil) b__law_mflat_3)
def b__law_mflat_1 : Sms := (.cons (.ife (.isi (.var 0) [.str]) (.cons (.ret (.bin .add (.bin .add (.lit (.str [34])) (.var 0)) (.lit (.str [34])))) .nil) .nil) b__law_mflat_2)
def b__law_mflat_0 : Sms := (.cons (.ife (.cmp .is_ (.var 0) (.lit .non)) (.cons (.ret (.lit (.str [78]))) .nil) .nil) b__law_mflat_1)
def b__law_mflat : Sms := b__law_mflat_0
def b__law_mflat_read_9 : Sms := (.cons (.ret (.lst (.cons (.bi .int (.slc (.var 0) (.var 1) (.var 5))) (.cons (.var 5) .nil)))) .nil)
def b__law_mflat_read_8 : Sms := (.cons (.ife (.or (.not (.chn .lt .lt (.lit (.int 0)) (.bi .len (.var 6)) (.lit (.int 10)))) (.and (.cmp .eq (.idx (.var 6) (.lit (.int 0))) (.lit (.str [48]))) (.or (.cmp .gt (.bi .len (.var 6)) (.lit (.int 1))) (.cmp .gt (.var 4) (.var 1))))) (.cons (.ret (.lit .non)) .nil) .nil) b__law_mflat_read_9)
def b__law_mflat_read_7 : Sms := (.cons (.set 6 (.slc (.var 0) (.var 4) (.var 5))) b__law_mflat_read_8)
def b__law_mflat_read_6c : Ex := (.and (.cmp .lt (.var 5) (.bi .len (.var 0))) (.cmp .in_ (.idx (.var 0) (.var 5)) (.lit (.str [48, 49, 50, 51, 52, 53, 54, 55, 56, 57]))))
def b__law_mflat_read_6a_0 : Sms := (.cons (.set 5 (.bin .add (.var 5) (.lit (.int 1)))) .nil)
def b__law_mflat_read_6 : Sms := (.cons (.whl b__law_mflat_read_6c b__law_mflat_read_6a_0) b__law_mflat_read_7)
def b__law_mflat_read_5 : Sms := (.cons (.set 5 (.var 4)) b__law_mflat_read_6)
def b__law_mflat_read_4 : Sms := (.cons (.set 4 (.bin .add (.var 1) (.bi .int (.cmp .eq (.var 3) (.lit (.str [45])))))) b__law_mflat_read_5)
def b__law_mflat_read_3a_2 : Sms := (.cons (.ret (.ife (.cmp .ge (.var 8) (.bi .len (.var 0))) (.lit .non) (.lst (.cons (.ife (.cmp .eq (.var 3) (.lit (.str [91]))) (.var 7) (.bi .tuple (.var 7))) (.cons (.bin .add (.var 8) (.lit (.int 1))) .nil))))) .nil)
def b__law_mflat_read_3a_1c : Ex := (.and (.cmp .lt (.var 8) (.bi .len (.var 0))) (.cmp .ne (.idx (.var 0) (.var 8)) (.idx (.lit (.str [41, 93])) (.bi .int (.cmp .eq (.var 3) (.lit (.str [91])))))))
def b__law_mflat_read_3a_1a_2 : Sms := (.cons (.par [7, 8] (.cons (.bin .add (.var 7) (.lst (.cons (.idx (.var 9) (.lit (.int 0))) .nil))) (.cons (.bin .add (.idx (.var 9) (.lit (.int 1))) (.lit (.int 1))) .nil))) .nil)
def b__law_mflat_read_3a_1a_1 : Sms := (.cons (.ife (.or (.cmp .is_ (.var 9) (.lit .non)) (.cmp .ne (.slc (.var 0) (.idx (.var 9) (.lit (.int 1))) (.bin .add (.idx (.var 9) (.lit (.int 1))) (.lit (.int 1)))) (.lit (.str [44])))) (.cons (.ret (.lit .non)) .nil) .nil) b__law_mflat_read_3a_1a_2)
def b__law_mflat_read_3a_1a_0 : Sms := (.cons (.set 9 (.call 30 (.cons (.var 0) (.cons (.var 8) (.cons (.bin .sub (.var 2) (.lit (.int 1))) .nil))))) b__law_mflat_read_3a_1a_1)
def b__law_mflat_read_3a_1 : Sms := (.cons (.whl b__law_mflat_read_3a_1c b__law_mflat_read_3a_1a_0) b__law_mflat_read_3a_2)
def b__law_mflat_read_3a_0 : Sms := (.cons (.par [7, 8] (.cons (.lst .nil) (.cons (.bin .add (.var 1) (.lit (.int 1))) .nil))) b__law_mflat_read_3a_1)
def b__law_mflat_read_3 : Sms := (.cons (.ife (.and (.cmp .in_ (.var 3) (.tup (.cons (.lit (.str [40])) (.cons (.lit (.str [91])) .nil)))) (.cmp .gt (.var 2) (.lit (.int 0)))) b__law_mflat_read_3a_0 .nil) b__law_mflat_read_4)
def b__law_mflat_read_2a_2 : Sms := (.cons (.ret (.ife (.cmp .eq (.slc (.var 0) (.var 5) (.bin .add (.var 5) (.lit (.int 1)))) (.lit (.str [34]))) (.lst (.cons (.slc (.var 0) (.bin .add (.var 1) (.lit (.int 1))) (.var 5)) (.cons (.bin .add (.var 5) (.lit (.int 1))) .nil))) (.lit .non))) .nil)
def b__law_mflat_read_2a_1c : Ex := (.and (.cmp .lt (.var 5) (.bi .len (.var 0))) (.cmp .in_ (.idx (.var 0) (.var 5)) (.lit (.str [97, 98, 99, 100, 101, 102, 103, 104, 105, 106, 107, 108, 109, 110, 111, 112, 113, 114, 115, 116, 117, 118, 119, 120, 121, 122, 48, 49, 50, 51, 52, 53, 54, 55, 56, 57, 60, 62, 40, 41, 91, 93, 44, 59, 58, 61, 43, 45, 46, 47, 32]))))
def b__law_mflat_read_2a_1a_0 : Sms := (.cons (.set 5 (.bin .add (.var 5) (.lit (.int 1)))) .nil)
def b__law_mflat_read_2a_1 : Sms := (.cons (.whl b__law_mflat_read_2a_1c b__law_mflat_read_2a_1a_0) b__law_mflat_read_2a_2)
def b__law_mflat_read_2a_0 : Sms := (.cons (.set 5 (.bin .add (.var 1) (.lit (.int 1)))) b__law_mflat_read_2a_1)
def b__law_mflat_read_2 : Sms := (.cons (.ife (.cmp .eq (.var 3) (.lit (.str [34]))) b__law_mflat_read_2a_0 .nil) b__law_mflat_read_3)
def b__law_mflat_read_1 : Sms := (.cons (.ife (.cmp .eq (.var 3) (.lit (.str [78]))) (.cons (.ret (.lst (.cons (.lit .non) (.cons (.bin .add (.var 1) (.lit (.int 1))) .nil)))) .nil) .nil) b__law_mflat_read_2)
def b__law_mflat_read_0 : Sms := (.cons (.set 3 (.slc (.var 0) (.var 1) (.bin .add (.var 1) (.lit (.int 1))))) b__law_mflat_read_1)
def b__law_mflat_read : Sms := b__law_mflat_read_0
def b__law_mname_2 : Sms := (.cons (.ret (.and (.cmp .nin (.var 0) (.var 1)) (.cmp .eq (.lc (.val (.var 0)) (.nm 2) [2] (.cons (.cmp .nin (.var 2) (.lit (.str [97, 98, 99, 100, 101, 102, 103, 104, 105, 106, 107, 108, 109, 110, 111, 112, 113, 114, 115, 116, 117, 118, 119, 120, 121, 122, 48, 49, 50, 51, 52, 53, 54, 55, 56, 57]))) .nil) (.var 2)) (.lst .nil)))) .nil)
def b__law_mname_1 : Sms := (.cons (.set 1 (.lst (.cons (.lit (.str [115, 105, 103, 110, 115])) (.cons (.lit (.str [102, 111, 114, 109, 97, 116])) (.cons (.lit (.str [110, 117, 109])) (.cons (.lit (.str [116, 111])) (.cons (.lit (.str [117, 112])) (.cons (.lit (.str [112, 97, 100])) (.cons (.lit (.str [119, 111, 114, 100])) (.cons (.lit (.str [111, 110, 101])) (.cons (.lit (.str [111, 114])) (.cons (.lit (.str [109, 97, 110, 121])) (.cons (.lit (.str [115, 111, 109, 101])) (.cons (.lit (.str [98, 121])) (.cons (.lit (.str [109, 97, 121, 98, 101])) (.cons (.lit (.str [101, 105, 116, 104, 101, 114])) .nil)))))))))))))))) b__law_mname_2)
def b__law_mname_0 : Sms := (.cons (.ife (.or (.not (.chn .lt .lt (.lit (.int 0)) (.bi .len (.var 0)) (.lit (.int 9)))) (.cmp .nin (.idx (.var 0) (.lit (.int 0))) (.lit (.str [97, 98, 99, 100, 101, 102, 103, 104, 105, 106, 107, 108, 109, 110, 111, 112, 113, 114, 115, 116, 117, 118, 119, 120, 121, 122])))) (.cons (.ret (.lit (.bl false))) .nil) .nil) b__law_mname_1)
def b__law_mname : Sms := b__law_mname_0
def b__law_mcount_in_1 : Sms := (.cons (.ret (.and (.or (.cmp .eq (.var 0) (.lit (.str [48]))) (.cmp .ne (.idx (.var 0) (.lit (.int 0))) (.lit (.str [48])))) (.cmp .lt (.bi .int (.var 0)) (.lit (.int 8001))))) .nil)
def b__law_mcount_in_0 : Sms := (.cons (.ife (.or (.not (.chn .lt .lt (.lit (.int 0)) (.bi .len (.var 0)) (.lit (.int 5)))) (.cmp .ne (.lc (.val (.var 0)) (.nm 1) [1] (.cons (.cmp .nin (.var 1) (.lit (.str [48, 49, 50, 51, 52, 53, 54, 55, 56, 57]))) .nil) (.var 1)) (.lst .nil))) (.cons (.ret (.lit (.bl false))) .nil) .nil) b__law_mcount_in_1)
def b__law_mcount_in : Sms := b__law_mcount_in_0
def b__law_mread_lines_2 : Sms := (.cons (.ret (.tup (.cons (.var 1) (.cons (.ife (.cmp .gt (.var 2) (.lit (.int 0))) (.lit (.int 0)) (.lit .non)) .nil)))) .nil)
def b__law_mread_lines_1a_1a_2 : Sms := (.cons (.cat 1 (.var 1) (.ife (.cmp .eq (.var 2) (.lit (.int 0))) (.lst (.cons (.tup (.cons (.lit (.str [99, 104, 97, 110, 103, 101])) (.cons (.var 3) .nil))) .nil)) (.lst .nil))) .nil)
def b__law_mread_lines_1a_1a_1 : Sms := (.cons (.ife (.or (.cmp .ne (.slc (.var 5) .abs (.lit (.int 1))) (.lit (.str [124]))) (.cmp .gt (.bin .add (.bi .len (.var 3)) (.var 2)) (.lit (.int 8000)))) (.cons (.ret (.tup (.cons (.var 1) (.cons (.bin .add (.var 4) (.lit (.int 1))) .nil)))) .nil) .nil) b__law_mread_lines_1a_1a_2)
def b__law_mread_lines_1a_1a_0 : Sms := (.cons (.par [2, 3] (.cons (.bin .sub (.var 2) (.lit (.int 1))) (.cons (.bin .add (.bin .add (.var 3) (.slc (.var 5) (.lit (.int 1)) .abs)) (.lit (.str [10]))) .nil))) b__law_mread_lines_1a_1a_1)
def b__law_mread_lines_1a_1b_0a_3 : Sms := (.cons (.ex (.me .append (.var 1) (.cons (.tup (.cons (.lit (.str [112, 117, 116])) (.cons (.idx (.var 6) (.lit (.int 1))) (.cons (.idx (.var 6) (.lit (.int 2))) (.cons (.idx (.var 8) (.lit (.int 0))) .nil))))) .nil))) .nil)
def b__law_mread_lines_1a_1b_0a_2 : Sms := (.cons (.ife (.or (.cmp .is_ (.var 8) (.lit .non)) (.cmp .ne (.idx (.var 8) (.lit (.int 1))) (.bi .len (.var 7)))) (.cons (.ret (.tup (.cons (.var 1) (.cons (.bin .add (.var 4) (.lit (.int 1))) .nil)))) .nil) .nil) b__law_mread_lines_1a_1b_0a_3)
def b__law_mread_lines_1a_1b_0a_1 : Sms := (.cons (.set 8 (.call 30 (.cons (.var 7) (.cons (.lit (.int 0)) (.cons (.lit (.int 8)) .nil))))) b__law_mread_lines_1a_1b_0a_2)
def b__law_mread_lines_1a_1b_0a_0 : Sms := (.cons (.set 7 (.slc (.var 5) (.bin .add (.bin .add (.bi .len (.idx (.var 6) (.lit (.int 1)))) (.bi .len (.idx (.var 6) (.lit (.int 2))))) (.lit (.int 6))) .abs)) b__law_mread_lines_1a_1b_0a_1)
def b__law_mread_lines_1a_1b_0b_0b_0a_1 : Sms := (.cons (.cat 1 (.var 1) (.ife (.cmp .eq (.var 2) (.lit (.int 0))) (.lst (.cons (.tup (.cons (.lit (.str [99, 104, 97, 110, 103, 101])) (.cons (.lit (.str [])) .nil))) .nil)) (.lst .nil))) .nil)
def b__law_mread_lines_1a_1b_0b_0b_0a_0 : Sms := (.cons (.par [2, 3] (.cons (.bi .int (.idx (.var 6) (.lit (.int 1)))) (.cons (.lit (.str [])) .nil))) b__law_mread_lines_1a_1b_0b_0b_0a_1)
def b__law_mread_lines_1a_1 : Sms := (.cons (.ife (.cmp .gt (.var 2) (.lit (.int 0))) b__law_mread_lines_1a_1a_0 (.cons (.ife (.and (.cmp .eq (.idx (.var 6) (.lit (.int 0))) (.lit (.str [112, 117, 116]))) (.and (.cmp .gt (.bi .len (.var 6)) (.lit (.int 3))) (.and (.call 31 (.cons (.idx (.var 6) (.lit (.int 1))) .nil)) (.call 31 (.cons (.idx (.var 6) (.lit (.int 2))) .nil))))) b__law_mread_lines_1a_1b_0a_0 (.cons (.ife (.and (.cmp .eq (.idx (.var 6) (.lit (.int 0))) (.lit (.str [100, 114, 111, 112]))) (.and (.cmp .eq (.bi .len (.var 6)) (.lit (.int 2))) (.call 31 (.cons (.idx (.var 6) (.lit (.int 1))) .nil)))) (.cons (.ex (.me .append (.var 1) (.cons (.bi .tuple (.var 6)) .nil))) .nil) (.cons (.ife (.and (.cmp .eq (.idx (.var 6) (.lit (.int 0))) (.lit (.str [99, 104, 97, 110, 103, 101]))) (.and (.cmp .eq (.bi .len (.var 6)) (.lit (.int 2))) (.call 32 (.cons (.idx (.var 6) (.lit (.int 1))) .nil)))) b__law_mread_lines_1a_1b_0b_0b_0a_0 (.cons (.ret (.tup (.cons (.var 1) (.cons (.bin .add (.var 4) (.lit (.int 1))) .nil)))) .nil)) .nil)) .nil)) .nil)) .nil)
def b__law_mread_lines_1a_0 : Sms := (.cons (.set 6 (.me .split (.var 5) (.cons (.lit (.str [32])) .nil))) b__law_mread_lines_1a_1)
def b__law_mread_lines_1 : Sms := (.cons (.for_ (.enm (.var 0)) (.tp [4, 5]) b__law_mread_lines_1a_0) b__law_mread_lines_2)
def b__law_mread_lines_0 : Sms := (.cons (.par [1, 2, 3] (.cons (.nls .nil) (.cons (.lit (.int 0)) (.cons (.lit (.str [])) .nil)))) b__law_mread_lines_1)
def b__law_mread_lines : Sms := b__law_mread_lines_0
def b__law_mform_4 : Sms := (.cons (.ret (.lst (.cons (.tup (.cons (.lit (.str [99, 104, 97, 110, 103, 101])) (.cons (.me .join (.lit (.str [])) (.cons (.lc (.val (.var 1)) (.nm 7) [7] .nil (.bin .add (.var 7) (.lit (.str [10])))) .nil)) .nil))) (.cons (.bin .add (.lst (.cons (.bin .add (.lit (.str [99, 104, 97, 110, 103, 101, 32])) (.bi .str (.bi .len (.var 1)))) .nil)) (.lc (.val (.var 1)) (.nm 7) [7] .nil (.bin .add (.lit (.str [124])) (.var 7)))) .nil)))) .nil)
def b__law_mform_3 : Sms := (.cons (.set 1 (.lc (.rng (.call 24 (.cons (.var 0) (.cons (.lit (.int 4)) .nil)))) (.nm 5) [5] .nil (.me .join (.lit (.str [])) (.cons (.lc (.rng (.call 24 (.cons (.var 0) (.cons (.lit (.int 4)) .nil)))) (.nm 6) [6] .nil (.call 25 (.cons (.var 0) (.cons (.bi .list (.lit (.str [32, 97, 98, 34, 124]))) .nil)))) .nil)))) b__law_mform_4)
def b__law_mform_2 : Sms := (.cons (.ife (.cmp .eq (.var 3) (.lit (.int 2))) (.cons (.ret (.lst (.cons (.tup (.cons (.lit (.str [100, 114, 111, 112])) (.cons (.var 2) .nil))) (.cons (.lst (.cons (.bin .add (.lit (.str [100, 114, 111, 112, 32])) (.var 2)) .nil)) .nil)))) .nil) .nil) b__law_mform_3)
def b__law_mform_1a_1 : Sms := (.cons (.ret (.lst (.cons (.tup (.cons (.lit (.str [112, 117, 116])) (.cons (.var 2) (.cons (.lit (.str [112])) (.cons (.var 4) .nil))))) (.cons (.lst (.cons (.bin .add (.bin .add (.bin .add (.lit (.str [112, 117, 116, 32])) (.var 2)) (.lit (.str [32, 112, 32]))) (.call 29 (.cons (.var 4) .nil))) .nil)) .nil)))) .nil)
def b__law_mform_1a_0 : Sms := (.cons (.set 4 (.call 28 (.cons (.var 0) (.cons (.lit (.int 3)) .nil)))) b__law_mform_1a_1)
def b__law_mform_1 : Sms := (.cons (.ife (.cmp .lt (.var 3) (.lit (.int 2))) b__law_mform_1a_0 .nil) b__law_mform_2)
def b__law_mform_0 : Sms := (.cons (.par [2, 3] (.cons (.call 25 (.cons (.var 0) (.cons (.lst (.cons (.lit (.str [97])) (.cons (.lit (.str [98, 50])) (.cons (.lit (.str [122, 122, 57])) (.cons (.lit (.str [97, 97, 97, 97, 97, 97, 97, 97])) .nil))))) .nil))) (.cons (.call 24 (.cons (.var 0) (.cons (.lit (.int 4)) .nil))) .nil))) b__law_mform_1)
def b__law_mform : Sms := b__law_mform_0
def b__law_mword : Sms := .nil
def b_law_4 : Sms := (.cons (.ret (.call 27 (.cons (.var 4) (.cons (.lst (.cons (.lit (.str [])) (.cons (.lst .nil) (.cons (.lit (.int 0)) (.cons (.lit (.int 1)) (.cons (.lit (.int 0)) (.cons (.lit (.int 2)) .nil))))))) .nil)))) .nil)
def b_law_3 : Sms := (.cons (.set 4 (.nls (.cons (.call 11 (.cons (.lst .nil) .nil)) (.cons (.call 20 (.cons (.lit (.str [])) .nil)) (.cons (.call 19 (.cons (.lit (.str [99, 104, 97, 110, 103, 101, 32, 49, 10])) .nil)) (.cons (.call 19 (.cons (.lit (.str [99, 104, 97, 110, 103, 101, 32, 56, 48, 48, 49, 10])) .nil)) (.cons (.call 19 (.cons (.var 3) .nil)) (.cons (.call 19 (.cons (.me .replace (.var 3) (.cons (.lit (.str [124, 97])) (.cons (.lit (.str [124, 97, 97])) (.cons (.lit (.int 1)) .nil)))) .nil)) .nil)))))))) b_law_4)
def b_law_2 : Sms := (.cons (.set 3 (.bin .add (.bin .add (.lit (.str [99, 104, 97, 110, 103, 101, 32, 50, 10, 124])) (.bin .mul (.lit (.str [97])) (.lit (.int 7998)))) (.lit (.str [10])))) b_law_3)
def b_law_1a_15a_2 : Sms := (.cons (.ife (.or (.not (.call 27 (.cons (.var 4) (.cons (.lst (.cons (.tup (.cons (.lit (.str [100, 101, 101, 100])) (.cons (.lit (.int 0)) .nil))) (.cons (.tup (.cons (.lit (.str [108, 105, 110, 101])) (.cons (.lit (.int 0)) .nil))) .nil))) .nil)))) (.not (.call 27 (.cons (.call 19 (.cons (.lst (.cons (.var 11) .nil)) .nil)) (.cons (.lit (.int 0)) .nil))))) (.cons (.ret (.lit (.bl false))) .nil) .nil) .nil)
def b_law_1a_15a_1 : Sms := (.cons (.ex (.me .append (.var 4) (.cons (.grd [(1, [108, 105, 110, 101]), (0, [100, 101, 101, 100])] [116, 111, 108, 100] (.call 20 (.cons (.lst (.cons (.var 11) .nil)) .nil))) .nil))) b_law_1a_15a_2)
def b_law_1a_15a_0 : Sms := (.cons (.set 4 (.nls (.cons (.grd [(1, [108, 105, 110, 101]), (0, [100, 101, 101, 100])] [116, 111, 108, 100] (.call 11 (.cons (.var 11) .nil))) .nil))) b_law_1a_15a_1)
def b_law_1a_15 : Sms := (.cons (.for_ (.val (.lst (.cons (.lit .non) (.cons (.lit (.int 5)) (.cons (.lit (.str [97, 98])) (.cons .edc .nil)))))) (.nm 11) b_law_1a_15a_0) .nil)
def b_law_1a_14 : Sms := (.cons (.ife (.not (.call 27 (.cons (.call 20 (.cons (.call 11 (.cons (.lst (.cons (.tup (.cons (.lit (.str [112, 117, 116])) (.cons (.lit (.str [97])) (.cons (.lit (.str [112])) (.cons (.var 9) .nil))))) .nil)) .nil)) .nil)) (.cons (.lst (.cons (.tup (.cons (.lit (.str [112, 117, 116])) (.cons (.lit (.str [97])) (.cons (.lit (.str [112])) (.cons (.var 9) .nil))))) .nil)) .nil)))) (.cons (.ret (.lit (.bl false))) .nil) .nil) b_law_1a_15)
def b_law_1a_13a_0 : Sms := (.cons (.ife (.not (.call 27 (.cons (.grd [(1, [108, 105, 110, 101]), (0, [100, 101, 101, 100])] [116, 111, 108, 100] (.call 11 (.cons (.bin .add (.bin .add (.bin .add (.slc (.var 12) .abs (.var 8)) (.lst (.cons (.var 11) .nil))) (.slc (.var 12) (.var 8) .abs)) (.lst (.cons (.lit .non) .nil))) .nil))) (.cons (.tup (.cons (.lit (.str [100, 101, 101, 100])) (.cons (.var 8) .nil))) .nil)))) (.cons (.ret (.lit (.bl false))) .nil) .nil) .nil)
def b_law_1a_13 : Sms := (.cons (.for_ (.val (.var 10)) (.nm 11) b_law_1a_13a_0) b_law_1a_14)
def b_law_1a_12 : Sms := (.cons (.set 10 (.bin .add (.var 10) (.lst (.cons (.tup (.cons (.lit (.str [99, 104, 97, 110, 103, 101])) (.cons (.lit (.str [97])) .nil))) (.cons (.tup (.cons (.lit (.str [99, 104, 97, 110, 103, 101])) (.cons (.lit .non) .nil))) (.cons (.tup (.cons (.lit (.str [99, 104, 97, 110, 103, 101])) (.cons (.bin .add (.bin .mul (.lit (.str [97])) (.lit (.int 8000))) (.lit (.str [10]))) .nil))) .nil)))))) b_law_1a_13)
def b_law_1a_11 : Sms := (.cons (.set 10 (.bin .add (.var 10) (.lst (.cons (.tup (.cons (.lit (.str [112, 117, 116])) (.cons (.lit (.str [97])) (.cons (.lit (.str [112])) (.cons (.lit (.str [65])) .nil))))) (.cons (.tup (.cons (.lit (.str [112, 117, 116])) (.cons (.lit (.str [97])) (.cons (.lit (.str [112])) (.cons (.tup (.cons (.lit (.int 1000000000)) .nil)) .nil))))) (.cons (.tup (.cons (.lit (.str [112, 117, 116])) (.cons (.lit (.str [97])) (.cons (.lit (.str [112])) (.cons (.tup (.cons (.var 9) .nil)) .nil))))) (.cons (.tup (.cons (.lit (.str [112, 117, 116])) (.cons (.lit (.str [109, 97, 110, 121])) (.cons (.lit (.str [112])) (.cons (.tup .nil) .nil))))) (.cons (.tup .nil) .nil)))))))) b_law_1a_12)
def b_law_1a_10 : Sms := (.cons (.set 10 (.lst (.cons (.lit .non) (.cons (.lit (.int 5)) (.cons (.tup (.cons (.lit (.str [115, 116, 111, 112])) .nil)) (.cons (.tup (.cons (.lit (.str [100, 114, 111, 112])) .nil)) (.cons (.tup (.cons (.lit (.str [100, 114, 111, 112])) (.cons (.lit (.str [65])) .nil))) (.cons (.tup (.cons (.lit (.str [100, 114, 111, 112])) (.cons (.lit (.str [97])) (.cons (.lit (.int 1)) .nil)))) (.cons (.tup (.cons (.lit (.str [112, 117, 116])) (.cons (.lit (.str [97])) (.cons (.lit (.str [112])) .nil)))) (.cons (.tup (.cons (.lit (.str [112, 117, 116])) (.cons (.lit (.str [97])) (.cons (.lit (.str [80])) (.cons (.tup .nil) .nil))))) (.cons (.tup (.cons (.lit (.str [112, 117, 116])) (.cons (.lit (.str [97])) (.cons (.lit (.str [112])) (.cons .edc .nil))))) (.cons (.tup (.cons (.lit (.str [112, 117, 116])) (.cons (.lit (.str [97])) (.cons (.lit (.str [112])) (.cons (.lit (.bl true)) .nil))))) .nil)))))))))))) b_law_1a_11)
def b_law_1a_9 : Sms := (.cons (.set 9 (.tup (.cons (.tup (.cons (.tup (.cons (.tup (.cons (.tup (.cons (.tup (.cons (.tup (.cons (.tup (.cons (.lit (.int 1)) .nil)) .nil)) .nil)) .nil)) .nil)) .nil)) .nil)) .nil))) b_law_1a_10)
def b_law_1a_8 : Sms := (.cons (.set 8 (.call 24 (.cons (.var 1) (.cons (.bin .add (.bi .len (.var 12)) (.lit (.int 1))) .nil)))) b_law_1a_9)
def b_law_1a_7a_5 : Sms := (.cons (.ife (.not (.call 27 (.cons (.grd [(1, [108, 105, 110, 101]), (0, [100, 101, 101, 100])] [116, 111, 108, 100] (.call 20 (.cons (.var 16) .nil))) (.cons (.ife (.cmp .isn (.var 18) (.lit .non)) (.tup (.cons (.lit (.str [108, 105, 110, 101])) (.cons (.var 18) .nil))) (.tup (.cons (.lit (.str [116, 111, 108, 100])) (.cons (.var 4) .nil)))) .nil)))) (.cons (.ret (.lit (.bl false))) .nil) .nil) .nil)
def b_law_1a_7a_4 : Sms := (.cons (.ife (.not (.call 27 (.cons (.lst (.cons (.call 19 (.cons (.var 16) .nil)) (.cons (.call 19 (.cons (.var 16) .nil)) .nil))) (.cons (.lst (.cons (.var 18) (.cons (.var 18) .nil))) .nil)))) (.cons (.ret (.lit (.bl false))) .nil) .nil) b_law_1a_7a_5)
def b_law_1a_7a_3 : Sms := (.cons (.set 18 (.ife (.and (.cmp .in_ (.var 19) (.tup (.cons (.lit (.int 0)) (.cons (.lit .non) .nil)))) (.cmp .ne (.idx (.var 17) (.neg (.lit (.int 1)))) (.lit (.str [])))) (.bi .len (.var 17)) (.var 19))) b_law_1a_7a_4)
def b_law_1a_7a_2 : Sms := (.cons (.unp [4, 19] (.call 33 (.cons (.slc (.var 17) .abs (.neg (.lit (.int 1)))) .nil))) b_law_1a_7a_3)
def b_law_1a_7a_1 : Sms := (.cons (.set 17 (.me .split (.var 16) (.cons (.lit (.str [10])) .nil))) b_law_1a_7a_2)
def b_law_1a_7a_0 : Sms := (.cons (.set 16 (.call 21 (.cons (.var 1) (.cons (.var 13) (.cons (.lst (.cons (.lit (.str [112, 117, 116])) (.cons (.lit (.str [100, 114, 111, 112])) (.cons (.lit (.str [99, 104, 97, 110, 103, 101])) (.cons (.lit (.str [78])) (.cons (.lit (.str [48])) (.cons (.lit (.str [49])) (.cons (.lit (.str [48, 49])) (.cons (.lit (.str [97])) (.cons (.lit (.str [65])) (.cons (.lit (.str [40, 41])) (.cons (.lit (.str [40])) (.cons (.lit (.str [91, 49, 44, 93])) (.cons (.lit (.str [34])) (.cons (.lit (.str [34, 97, 34])) (.cons (.lit (.str [45, 48])) (.cons (.lit (.str [124])) (.cons (.lit (.str [])) (.cons (.lit (.str [109, 97, 110, 121])) .nil))))))))))))))))))) .nil))))) b_law_1a_7a_1)
def b_law_1a_7 : Sms := (.cons (.for_ (.rng (.lit (.int 14))) (.nm 7) b_law_1a_7a_0) b_law_1a_8)
def b_law_1a_6 : Sms := (.cons (.ife (.or (.not (.call 27 (.cons (.var 6) (.cons (.lst (.cons (.tup (.cons (.lit (.str [116, 111, 108, 100])) (.cons (.var 14) .nil))) (.cons (.tup (.cons (.lit (.str [116, 111, 108, 100])) (.cons (.var 14) .nil))) (.cons (.tup (.cons (.lit (.str [116, 111, 108, 100])) (.cons (.var 12) .nil))) .nil)))) .nil)))) (.or (.cmp .isn (.call 19 (.cons (.var 14) .nil)) (.lit .non)) (.not (.call 27 (.cons (.var 12) (.cons (.var 15) .nil)))))) (.cons (.ret (.lit (.bl false))) .nil) .nil) b_law_1a_7)
def b_law_1a_5 : Sms := (.cons (.ex (.me .append (.var 6) (.cons (.grd [(1, [108, 105, 110, 101]), (0, [100, 101, 101, 100])] [116, 111, 108, 100] (.call 20 (.cons (.var 14) .nil))) .nil))) b_law_1a_6)
def b_law_1a_4 : Sms := (.cons (.ex (.me .append (.var 6) (.cons (.grd [(1, [108, 105, 110, 101]), (0, [100, 101, 101, 100])] [116, 111, 108, 100] (.call 11 (.cons (.bi .tuple (.lc (.val (.var 12)) (.nm 21) [21] .nil (.bi .list (.var 21)))) .nil))) .nil))) b_law_1a_5)
def b_law_1a_3 : Sms := (.cons (.set 6 (.nls (.cons (.grd [(1, [108, 105, 110, 101]), (0, [100, 101, 101, 100])] [116, 111, 108, 100] (.call 11 (.cons (.var 12) .nil))) .nil))) b_law_1a_4)
def b_law_1a_2 : Sms := (.cons (.par [14, 15] (.cons (.call 22 (.cons (.var 13) .nil)) (.cons (.call 26 (.cons (.var 12) .nil)) .nil))) b_law_1a_3)
def b_law_1a_1 : Sms := (.cons (.par [12, 13] (.cons (.lc (.val (.var 5)) (.nm 20) [20] .nil (.idx (.var 20) (.lit (.int 0)))) (.cons (.suml (.lc (.val (.var 5)) (.nm 20) [20] .nil (.idx (.var 20) (.lit (.int 1))))) .nil))) b_law_1a_2)
def b_law_1a_0 : Sms := (.cons (.set 5 (.lc (.rng (.bin .add (.lit (.int 1)) (.call 24 (.cons (.var 1) (.cons (.lit (.int 6)) .nil))))) (.nm 7) [7] .nil (.call 34 (.cons (.var 1) .nil)))) b_law_1a_1)
def b_law_1 : Sms := (.cons (.for_ (.rng (.lit (.int 4))) (.nm 2) b_law_1a_0) b_law_2)
def b_law_0 : Sms := (.cons (.set 1 (.call 23 (.cons (.var 0) .nil))) b_law_1)
def b_law : Sms := b_law_0
abbrev f_is_text : Nat := 0
abbrev f_is_name : Nat := 1
abbrev f_is_deed : Nat := 2
abbrev f_is_lines : Nat := 3
abbrev f_is_flat : Nat := 4
abbrev f_flat_word : Nat := 5
abbrev f_number_at : Nat := 6
abbrev f_row_at : Nat := 7
abbrev f_thing_at : Nat := 8
abbrev f_plain_deed : Nat := 9
abbrev f_deed_lines : Nat := 10
abbrev f_deeds_text : Nat := 11
abbrev f_figure_of : Nat := 12
abbrev f_DeedReading___init__ : Nat := 13
abbrev f_DeedReading_close : Nat := 14
abbrev f_DeedReading_take_line : Nat := 15
abbrev f_DeedReading_take_put : Nat := 16
abbrev f_DeedReading_take : Nat := 17
abbrev f_lines_read : Nat := 18
abbrev f_deeds_fault : Nat := 19
abbrev f_read_deeds : Nat := 20
abbrev f__law_mbent : Nat := 21
abbrev f__law_mtext : Nat := 22
abbrev f__law_start : Nat := 23
abbrev f__law_below : Nat := 24
abbrev f__law_pick : Nat := 25
abbrev f__law_copied : Nat := 26
abbrev f__law_same : Nat := 27
abbrev f__law_mthing : Nat := 28
abbrev f__law_mflat : Nat := 29
abbrev f__law_mflat_read : Nat := 30
abbrev f__law_mname : Nat := 31
abbrev f__law_mcount_in : Nat := 32
abbrev f__law_mread_lines : Nat := 33
abbrev f__law_mform : Nat := 34
abbrev f__law_mword : Nat := 35
abbrev f_law : Nat := 36
def fns : List Fn := [
  ⟨3, 4, false, b_is_text⟩,
  ⟨1, 2, false, b_is_name⟩,
  ⟨1, 1, false, b_is_deed⟩,
  ⟨1, 1, false, b_is_lines⟩,
  ⟨2, 3, false, b_is_flat⟩,
  ⟨1, 3, false, b_flat_word⟩,
  ⟨2, 5, false, b_number_at⟩,
  ⟨3, 7, false, b_row_at⟩,
  ⟨3, 6, false, b_thing_at⟩,
  ⟨1, 1, false, b_plain_deed⟩,
  ⟨1, 3, false, b_deed_lines⟩,
  ⟨1, 6, false, b_deeds_text⟩,
  ⟨1, 2, false, b_figure_of⟩,
  ⟨1, 1, false, b_DeedReading___init__⟩,
  ⟨1, 2, false, b_DeedReading_close⟩,
  ⟨2, 3, false, b_DeedReading_take_line⟩,
  ⟨2, 5, false, b_DeedReading_take_put⟩,
  ⟨2, 4, false, b_DeedReading_take⟩,
  ⟨1, 5, false, b_lines_read⟩,
  ⟨1, 1, false, b_deeds_fault⟩,
  ⟨1, 3, false, b_read_deeds⟩,
  ⟨3, 9, false, b__law_mbent⟩,
  ⟨1, 2, false, b__law_mtext⟩,
  ⟨1, 1, true, b__law_start⟩,
  ⟨2, 5, false, b__law_below⟩,
  ⟨2, 2, false, b__law_pick⟩,
  ⟨1, 4, false, b__law_copied⟩,
  ⟨2, 4, false, b__law_same⟩,
  ⟨2, 5, false, b__law_mthing⟩,
  ⟨1, 3, false, b__law_mflat⟩,
  ⟨3, 10, false, b__law_mflat_read⟩,
  ⟨1, 3, false, b__law_mname⟩,
  ⟨1, 2, false, b__law_mcount_in⟩,
  ⟨1, 9, false, b__law_mread_lines⟩,
  ⟨1, 8, false, b__law_mform⟩,
  ⟨1, 2, false, b__law_mword⟩,
  ⟨1, 22, false, b_law⟩]
def g_LETTERS : D := (.str [97, 98, 99, 100, 101, 102, 103, 104, 105, 106, 107, 108, 109, 110, 111, 112, 113, 114, 115, 116, 117, 118, 119, 120, 121, 122])
def g_FIGURES : D := (.str [48, 49, 50, 51, 52, 53, 54, 55, 56, 57])
def g_SIGNS : D := (.str [97, 98, 99, 100, 101, 102, 103, 104, 105, 106, 107, 108, 109, 110, 111, 112, 113, 114, 115, 116, 117, 118, 119, 120, 121, 122, 48, 49, 50, 51, 52, 53, 54, 55, 56, 57, 60, 62, 40, 41, 91, 93, 44, 59, 58, 61, 43, 45, 46, 47, 32])
def g_KEYS : D := (.tup [(.str [115, 105, 103, 110, 115]), (.str [102, 111, 114, 109, 97, 116]), (.str [110, 117, 109]), (.str [116, 111]), (.str [117, 112]), (.str [112, 97, 100]), (.str [119, 111, 114, 100]), (.str [111, 110, 101]), (.str [111, 114]), (.str [109, 97, 110, 121]), (.str [115, 111, 109, 101]), (.str [98, 121]), (.str [109, 97, 121, 98, 101]), (.str [101, 105, 116, 104, 101, 114])])
def g_SIZES : D := (.sdc [([112, 117, 116], 4), ([100, 114, 111, 112], 2), ([99, 104, 97, 110, 103, 101], 2)])
def g_LONG : D := (.int 8000)
def g_MARK : D := (.str [124])
def g_DEEP : D := (.int 8)
def g_PLACES : D := (.int 9)
def gl : List D := [g_LETTERS, g_FIGURES, g_SIGNS, g_KEYS, g_SIZES, g_LONG, g_MARK, g_DEEP, g_PLACES]
def ini : Nat → Nat
  | 0 => 13
  | _ => 0
def pg : Pg := ⟨fns, gl, ini⟩
end K85
namespace Pw
open Pv
def brB {α : Type} (d : D) (a b : Ro α) : Ro α := match d with
  | .bl true => a
  | .bl false => b
  | _ => .stuck
theorem brB_bl {α : Type} (x : Bool) (a b : Ro α) : brB (.bl x) a b = if x then a else b := by cases x <;> rfl
theorem bind_ite {α β : Type} (c : Prop) [Decidable c] (a b : Ro α) (f : α → Store → Ro β) : (if c then a else b).bind f = if c then a.bind f else b.bind f := by split <;> rfl
section
variable (cf : Cf) (e : Env) (m : Bool) (a b c : Ex) (S : Store)
theorem evE_and : evE cf e m (.and a b) S = (evE cf e m a S).bind fun x S => brB x (evE cf e m b S) (.ok (.bl false) S) := rfl
theorem evE_or : evE cf e m (.or a b) S = (evE cf e m a S).bind fun x S => brB x (.ok (.bl true) S) (evE cf e m b S) := rfl
theorem evE_ife : evE cf e false (.ife c a b) S = (evE cf e true c S).bind fun x S => brB x (evE cf e false a S) (evE cf e false b S) := rfl
def notB (d : D) (S : Store) : Ro D := match d with
  | .bl k => .ok (.bl (!k)) S
  | _ => .stuck
theorem notB_bl (k : Bool) : notB (.bl k) S = .ok (.bl (!k)) S := rfl
theorem evE_not : evE cf e m (.not a) S = (evE cf e m a S).bind fun x S => notB x S := rfl
variable (p q : Sms)
theorem evS_ife : evS cf (.ife c p q) e S = (evE cf e true c S).bind fun x S => brB x (evSs cf p e S) (evSs cf q e S) := rfl
def flow (f : Fl) (S : Store) (g : Env → Store → Ro Fl) : Ro Fl := match f with
  | .nx e => g e S
  | fl => .ok fl S
theorem flow_nx (S : Store) (e : Env) (g : Env → Store → Ro Fl) : flow (.nx e) S g = g e S := rfl
theorem flow_rt (S : Store) (d : D) (g : Env → Store → Ro Fl) : flow (.rt d) S g = .ok (.rt d) S := rfl
theorem evSs_cons (s : Sm) (r : Sms) : evSs cf (.cons s r) e S = (evS cf s e S).bind fun fl S => flow fl S fun e S => evSs cf r e S := rfl
def endFl (f : Fl) (S : Store) : Ro D := match f with
  | .nx _ => .ok .non S
  | .rt d => .ok d S
  | _ => .stuck
theorem endFl_nx (e : Env) (S : Store) : endFl (.nx e) S = .ok .non S := rfl
theorem endFl_rt (d : D) (S : Store) : endFl (.rt d) S = .ok d S := rfl
theorem runB_eq (cf : Cf) (fn : Fn) (as : List D) (S : Store) (h : as.length = fn.ar) : runB cf fn as S = (evSs cf fn.bd (as.map some ++ List.replicate (fn.sl - fn.ar) none) S).bind endFl := by
  unfold runB
  rw [if_pos h]
  rfl
theorem done_ok (d : D) (S S' : Store) (h : d.pure = true) : done (.ok d S') S = .ok d S := by
  unfold done frzD
  simp [h, Ro.opt]
theorem done_ite (c : Prop) [Decidable c] (a b : Ro D) (S : Store) : done (if c then a else b) S = if c then done a S else done b S := by split <;> rfl
theorem opt_ite {α : Type} (c : Prop) [Decidable c] (a b : Option α) (S : Store) : Ro.opt (if c then a else b) S = if c then Ro.opt a S else Ro.opt b S := by split <;> rfl
end
end Pw
namespace Pw
open Pv
section
variable (S : Store)
theorem opAi (i j : Int) : opD .add S (.int i) (.int j) = some (.int (i + j)) := rfl
theorem opSi (i j : Int) : opD .sub S (.int i) (.int j) = some (.int (i - j)) := rfl
theorem opAs (a b : List Nat) (h : a.length + b.length ≤ SZ) : opD .add S (.str a) (.str b) = some (.str (a ++ b)) := by simp [opD, h]
theorem opAl (a b : List D) (h : a.length + b.length ≤ SZ) : opD .add S (.lst a) (.lst b) = some (.lst (a ++ b)) := by simp [opD, D.items, h]
theorem cmLt (i j : Int) : cmD .lt S (.int i) (.int j) = some (decide (i < j)) := rfl
theorem cmLe (i j : Int) : cmD .le S (.int i) (.int j) = some (decide (i ≤ j)) := rfl
theorem cmGt (i j : Int) : cmD .gt S (.int i) (.int j) = some (decide (j < i)) := rfl
theorem cmGe (i j : Int) : cmD .ge S (.int i) (.int j) = some (decide (j ≤ i)) := rfl
theorem cmEs (a b : List Nat) : cmD .eq S (.str a) (.str b) = some (decide (a = b)) := by
  show some (a == b) = _
  congr 1
  by_cases h : a = b <;> simp [h]
theorem cmNs (a b : List Nat) : cmD .ne S (.str a) (.str b) = some (!decide (a = b)) := by
  show (some (a == b)).map _ = _
  congr 1
  by_cases h : a = b <;> simp [h]
theorem cmEi (a b : Int) : cmD .eq S (.int a) (.int b) = some (decide (a = b)) := rfl
theorem cmNi (a b : Int) : cmD .ne S (.int a) (.int b) = some (!decide (a = b)) := rfl
theorem cmEb (a b : Bool) : cmD .eq S (.bl a) (.bl b) = some (a == b) := rfl
theorem cmNb (a b : Bool) : cmD .ne S (.bl a) (.bl b) = some (!(a == b)) := rfl
theorem cmInS (c : Nat) (s : List Nat) : cmD .in_ S (.str [c]) (.str s) = some (decide (c ∈ s)) := rfl
theorem cmNinS (c : Nat) (s : List Nat) : cmD .nin S (.str [c]) (.str s) = some (!decide (c ∈ s)) := rfl
theorem cmIsNon : cmD .is_ S .non .non = some true := rfl
theorem cmIsStr (s : List Nat) : cmD .is_ S (.str s) .non = some false := rfl
theorem cmIsInt (s : Int) : cmD .is_ S (.int s) .non = some false := rfl
theorem cmIsTup (s : List D) : cmD .is_ S (.tup s) .non = some false := rfl
theorem cmIsLst (s : List D) : cmD .is_ S (.lst s) .non = some false := rfl
theorem cmIsn (x : D) : cmD .isn S x .non = (cmD .is_ S x .non).map (!·) := by cases x <;> rfl
theorem lenS (s : List Nat) (h : s.length ≤ SZ) : biD .len S (.str s) = some (.int s.length) := by simp [biD, lenD, h]
theorem lenL (s : List D) : biD .len S (.lst s) = some (.int s.length) := rfl
theorem lenT (s : List D) : biD .len S (.tup s) = some (.int s.length) := rfl
theorem idxL (xs : List D) (i : Int) : ixD S (.lst xs) (.int i) = atI xs i := rfl
theorem idxT (xs : List D) (i : Int) : ixD S (.tup xs) (.int i) = atI xs i := rfl
theorem idxS (s : List Nat) (i : Int) (h : s.length ≤ SZ) : ixD S (.str s) (.int i) = (atI s i).map fun c => .str [c] := by simp [ixD, h]
theorem slcS (s : List Nat) (lo hi : Option Int) (h : s.length ≤ SZ) : slcD S (.str s) lo hi = some (.str (cut s lo hi)) := by simp [slcD, h]
theorem slcL (s : List D) (lo hi : Option Int) : slcD S (.lst s) lo hi = some (.lst (cut s lo hi)) := rfl
theorem slcT (s : List D) (lo hi : Option Int) : slcD S (.tup s) lo hi = some (.tup (cut s lo hi)) := rfl
theorem prtI (i : Int) : prt (.int i) = some (some i) := rfl
theorem isiS (s : List Nat) (ts : List Ty) : isiD S (.str s) ts = some (ts.any (Ty.sub (some .str))) := rfl
theorem isiL (s : List D) (ts : List Ty) : isiD S (.lst s) ts = some (ts.any (Ty.sub (some .list))) := rfl
theorem isiT (s : List D) (ts : List Ty) : isiD S (.tup s) ts = some (ts.any (Ty.sub (some .tuple))) := rfl
theorem isiI (s : Int) (ts : List Ty) : isiD S (.int s) ts = some (ts.any (Ty.sub (some .int))) := rfl
theorem isiB (s : Bool) (ts : List Ty) : isiD S (.bl s) ts = some (ts.any (Ty.sub (some .bool))) := rfl
theorem isiN (ts : List Ty) : isiD S .non ts = some false := rfl
theorem isiD' (ts : List Ty) : isiD S .edc ts = some (ts.any (Ty.sub (some .dict))) := rfl
theorem truB (b : Bool) : D.truth S (.bl b) = some b := rfl
theorem truL (b : List D) : D.truth S (.lst b) = some (!b.isEmpty) := rfl
theorem truT (b : List D) : D.truth S (.tup b) = some (!b.isEmpty) := rfl
theorem truI (b : Int) : D.truth S (.int b) = some (!decide (b = 0)) := rfl
end
theorem nat1 (n : Nat) : (n : Int) + 1 = ((n + 1 : Nat) : Int) := rfl
/-- an index behind n things -/
theorem at_drop {α : Type} {w r : List α} {c : α} {i : Nat} (h : w.drop i = c :: r) : i < w.length ∧ w[i]? = some c := by
  have h1 : i < w.length := by
    rcases Nat.lt_or_ge i w.length with g | g
    · exact g
    · rw [List.drop_eq_nil_of_le g] at h; cases h
  refine ⟨h1, ?_⟩
  have := congrArg List.head? h
  simpa [List.head?_drop] using this
theorem atI_nat {α : Type} (w : List α) (i : Nat) : atI w (i : Int) = w[i]? := by
  unfold atI ixN
  have h0 : (0 : Int) ≤ i := Int.natCast_nonneg i
  rw [if_pos h0]
  by_cases h : i < w.length
  · have h' : (i : Int) < w.length := by omega
    rw [if_pos h']; rfl
  · have h' : ¬ (i : Int) < w.length := by omega
    rw [if_neg h', List.getElem?_eq_none (by omega)]; rfl
theorem atI_one {α : Type} (w : List α) : atI w 1 = w[1]? := atI_nat w 1
theorem atI_two {α : Type} (w : List α) : atI w 2 = w[2]? := atI_nat w 2
theorem atI_three {α : Type} (w : List α) : atI w 3 = w[3]? := atI_nat w 3
theorem whl_next {c : Env → Store → Ro D} {b : Env → Store → Ro Fl} {n : Nat} {e e' : Env} {S S1 S2 : Store} (hc : c e S = .ok (.bl true) S1) (hb : b e S1 = .ok (.nx e') S2) : whlLoop c b (n + 1) e S = whlLoop c b n e' S2 := by simp only [whlLoop, hc, Ro.bind_ok, hb]
theorem whl_ret {c : Env → Store → Ro D} {b : Env → Store → Ro Fl} {n : Nat} {e : Env} {S S1 S2 : Store} {d : D} (hc : c e S = .ok (.bl true) S1) (hb : b e S1 = .ok (.rt d) S2) : whlLoop c b (n + 1) e S = .ok (.rt d) S2 := by simp only [whlLoop, hc, Ro.bind_ok, hb]
theorem whl_exit {c : Env → Store → Ro D} {b : Env → Store → Ro Fl} {n : Nat} {e : Env} {S S1 : Store} (hc : c e S = .ok (.bl false) S1) : whlLoop c b (n + 1) e S = .ok (.nx e) S1 := by simp only [whlLoop, hc, Ro.bind_ok]
theorem for_next {b : D → Env → Store → Ro Fl} {w : List (Nat × List D)} {x : D} {xs : List D} {e e' : Env} {S S1 : Store} (hb : b x e S = .ok (.nx e') S1) (hs : still w S1 = true) : forLoop b w (x :: xs) e S = forLoop b w xs e' S1 := by simp only [forLoop, hb, Ro.bind_ok, hs, if_true]
theorem for_ret {b : D → Env → Store → Ro Fl} {w : List (Nat × List D)} {x : D} {xs : List D} {e : Env} {S S1 : Store} {d : D} (hb : b x e S = .ok (.rt d) S1) : forLoop b w (x :: xs) e S = .ok (.rt d) S1 := by simp only [forLoop, hb, Ro.bind_ok]
theorem for_nil {b : D → Env → Store → Ro Fl} {w : List (Nat × List D)} {e : Env} {S : Store} : forLoop b w [] e S = .ok (.nx e) S := rfl
theorem atI_zero {α : Type} (w : List α) : atI w 0 = w[0]? := atI_nat w 0
theorem cut_nn {α : Type} (w : List α) (a b : Nat) (h : b ≤ w.length) : cut w (some (a : Int)) (some (b : Int)) = (w.drop a).take (b - a) := by
  have ha : ¬ (a : Int) < 0 := by omega
  have hb : ¬ (b : Int) < 0 := by omega
  unfold cut sIx
  simp only [if_neg ha, if_neg hb, Int.toNat_natCast]
  rw [Nat.min_eq_left h]
  by_cases h2 : a ≤ w.length
  · rw [Nat.min_eq_left h2]
  · rw [Nat.min_eq_right (by omega), List.drop_eq_nil_of_le (Nat.le_refl _), List.drop_eq_nil_of_le (by omega)]
    simp
/-- one thing, or none at the end -/
theorem cut_one {α : Type} (w : List α) (a : Nat) : cut w (some (a : Int)) (some ((a + 1 : Nat) : Int)) = (w.drop a).take 1 := by
  by_cases h : a + 1 ≤ w.length
  · rw [cut_nn w a (a + 1) h]; congr 1; omega
  · have ha : ¬ (a : Int) < 0 := by omega
    have hb : ¬ ((a + 1 : Nat) : Int) < 0 := by omega
    unfold cut sIx
    simp only [if_neg ha, if_neg hb, Int.toNat_natCast]
    rw [Nat.min_eq_right (by omega), Nat.min_eq_right (by omega), List.drop_eq_nil_of_le (Nat.le_refl _), List.drop_eq_nil_of_le (by omega)]
    simp
theorem cut_lo {α : Type} (w : List α) (a : Nat) : cut w (some (a : Int)) none = w.drop a := by
  have ha : ¬ (a : Int) < 0 := by omega
  unfold cut sIx
  simp only [if_neg ha, Int.toNat_natCast]
  by_cases h2 : a ≤ w.length
  · rw [Nat.min_eq_left h2, List.take_of_length_le (by simp)]
  · rw [Nat.min_eq_right (by omega), List.drop_eq_nil_of_le (Nat.le_refl _), List.drop_eq_nil_of_le (by omega)]
    simp
theorem cut_hi {α : Type} (w : List α) (a : Nat) : cut w none (some (a : Int)) = w.take a := by
  have ha : ¬ (a : Int) < 0 := by omega
  unfold cut sIx
  simp only [if_neg ha, Int.toNat_natCast, Nat.sub_zero, List.drop_zero]
  by_cases h2 : a ≤ w.length
  · rw [Nat.min_eq_left h2]
  · (rw [Nat.min_eq_right (by omega), List.take_of_length_le (Nat.le_refl _), List.take_of_length_le (by omega)])
theorem cut_last {α : Type} (w : List α) : cut w none (some (-1)) = w.dropLast := by
  show (w.drop 0).take ((-1 + (w.length : Int)).toNat - 0) = _
  rw [List.dropLast_eq_take, List.drop_zero]
  congr 1
  omega
theorem atI_last {α : Type} (w : List α) (h : w ≠ []) : atI w (-1) = some (w.getLast h) := by
  have hl : 0 < w.length := List.length_pos_iff.mpr h
  unfold atI ixN
  rw [if_neg (by omega), if_pos (by omega)]
  show w[(-1 + (w.length : Int)).toNat]? = _
  rw [List.getLast_eq_getElem, show (-1 + (w.length : Int)).toNat = w.length - 1 by omega, List.getElem?_eq_getElem (by omega)]
theorem call_pure {P : Pg} {k f : Nat} {ds : List D} {S : Store} (fn : Fn) (hfn : P.fns[f]? = some fn) (hl : (fn.lv || !D.pures ds) = false) : callF P (k + 1) f ds S = done (runB (P.cf (callF P k)) fn ds []) S := by
  show (match P.fns[f]? with | none => _ | some fn => _) = _
  rw [hfn]
  simp only [hl]
  rfl
theorem call_live {P : Pg} {k f : Nat} {ds : List D} {S : Store} (fn : Fn) (hfn : P.fns[f]? = some fn) (hl : (fn.lv || !D.pures ds) = true) : callF P (k + 1) f ds S = runB (P.cf (callF P k)) fn ds S := by
  show (match P.fns[f]? with | none => _ | some fn => _) = _
  rw [hfn]
  simp only [hl]
  rfl
/-- a while that counts: E i behind i turns, the test holds n times -/
theorem whl_count {c : Env → Store → Ro D} {b : Env → Store → Ro Fl} {S : Store} (P : Nat → Bool) (E : Nat → Env) (n : Nat)
    (hc : ∀ i, i ≤ n → c (E i) S = .ok (.bl (P i)) S) (hb : ∀ i, i < n → b (E i) S = .ok (.nx (E (i + 1))) S) (hp : ∀ i, i < n → P i = true) (hn : P n = false) :
    ∀ fuel, n < fuel → whlLoop c b fuel (E 0) S = .ok (.nx (E n)) S := by
  suffices H : ∀ m i, i + m = n → ∀ fuel, m < fuel → whlLoop c b fuel (E i) S = .ok (.nx (E n)) S from fun fuel h => H n 0 (by omega) fuel h
  intro m
  induction m with
  | zero =>
    intro i hi fuel hf
    obtain ⟨f, rfl⟩ : ∃ f, fuel = f + 1 := ⟨fuel - 1, by omega⟩
    obtain rfl : i = n := by omega
    simp only [whlLoop, hc i (by omega), Ro.bind_ok, hn]
  | succ m ih =>
    intro i hi fuel hf
    obtain ⟨f, rfl⟩ : ∃ f, fuel = f + 1 := ⟨fuel - 1, by omega⟩
    simp only [whlLoop, hc i (by omega), Ro.bind_ok, hp i (by omega), hb i (by omega)]
    exact ih (i + 1) (by omega) f (by omega)
/-- a comprehension over data whose body leaves the objects as they are -/
theorem lc_map {b : D → Store → Ro (Option D)} {S : Store} (g : D → Option D) : ∀ (xs : List D), (∀ x ∈ xs, b x S = .ok (g x) S) → lcLoop b [] xs S = .ok (xs.filterMap g) S
  | [], _ => rfl
  | x :: xs, h => by
    show ((b x S).sure.bind fun o S1 => if still [] S1 then (lcLoop b [] xs S1).bind fun ys S2 => .ok (consO o ys) S2 else .stuck) = _
    rw [h x (List.mem_cons_self ..)]
    show ((lcLoop b [] xs S).bind fun ys S2 => .ok (consO (g x) ys) S2) = _
    rw [lc_map g xs fun y hy => h y (List.mem_cons_of_mem _ hy)]
    cases e : g x <;> simp [e, Ro.bind, consO]
/-- the signs of s of which p is true -/
theorem lc_filter {p : Nat → Bool} {b : D → Store → Ro (Option D)} {S : Store} (s : List Nat) (hb : ∀ c, b (.str [c]) S = .ok (if p c then some (.str [c]) else none) S) : lcLoop b [] (s.map fun c => .str [c]) S = .ok ((s.filter p).map fun c => D.str [c]) S := by
  induction s with
  | nil => rfl
  | cons c s ih =>
    show ((b (.str [c]) S).sure.bind fun o S1 => if still [] S1 then (lcLoop b [] (s.map fun c => .str [c]) S1).bind fun ys S2 => .ok (consO o ys) S2 else .stuck) = _
    rw [hb]
    show ((lcLoop b [] (s.map fun c => .str [c]) S).bind fun ys S2 => .ok (consO (if p c then some (D.str [c]) else none) ys) S2) = _
    rw [ih]
    by_cases h : p c <;> simp [h, Ro.bind, consO]
theorem truth_signs (l : List Nat) (S : Store) : D.truth S (.lst (l.map fun c => D.str [c])) = some (!l.isEmpty) := by cases l <;> rfl
theorem eq_signs (l : List Nat) (h : okStr l = true) (S : Store) : cmD .eq S (.lst (l.map fun c => D.str [c])) (.lst []) = some l.isEmpty := by
  have hs : D.seens (l.map fun c => D.str [c]) = true := by
    induction l with
    | nil => rfl
    | cons c l ih =>
      have h1 : decide (c < 0x110000) = true ∧ okStr l = true := by simpa [okStr] using h
      have h2 : okStr [c] = true := by simpa [okStr] using h1.1
      simp only [List.map, D.seens, D.seen, h2, ih h1.2, Bool.and_self]
  have hd : D.deeps (l.map fun c => D.str [c]) = 0 := by
    clear h hs
    induction l with
    | nil => rfl
    | cons c l ih => simp [D.deeps, D.deep, ih]
  show eqD S _ _ = _
  unfold eqD
  rw [if_neg (by simp [D.scal])]
  simp only [D.one, D.seen, hs, D.deep, hd, D.deeps, D.seens]
  cases l <;> simp [D.eqv, D.eqvs]
end Pw
namespace Pw
open Pv
section
variable (cf : Cf) (e : Env) (m : Bool) (a b c : Ex) (S : Store) (es : Exs) (p : Sms)
theorem cf_gl (P : Pg) (c : Nat → List D → Store → Ro D) : (P.cf c).gl = P.gl := rfl
theorem cf_call (P : Pg) (c : Nat → List D → Store → Ro D) : (P.cf c).call = c := rfl
theorem cf_init (P : Pg) (c : Nat → List D → Store → Ro D) : (P.cf c).init = P.init := rfl
theorem evSs_nil : evSs cf .nil e S = .ok (.nx e) S := rfl
theorem evS_whl : evS cf (.whl c p) e S = whlLoop (fun e S => evE cf e true c S) (fun e S => evSs cf p e S) FUEL e S := by simp only [evS]
def forR (cf : Cf) (t : Tg) (b : Sms) (e : Env) (p : List D × List (Nat × List D)) (S : Store) : Ro Fl := forLoop (fun x e S => (Ro.opt (bindT t x e) S).bind fun e S => evSs cf b e S) p.2 p.1 e S
theorem evS_for (s : Sr) (t : Tg) : evS cf (.for_ s t p) e S = (evR cf e s S).bind fun q S => forR cf t p e q S := by simp only [evS]; rfl
theorem evS_set (i : Nat) : evS cf (.set i a) e S = (evE cf e false a S).bind fun x S => .ok (.nx (e.set i (some x))) S := by simp only [evS]
theorem evS_par (is : List Nat) : evS cf (.par is es) e S = (evEs cf e es S).bind fun xs S => if xs.length = is.length then .ok (.nx (setAll e is xs)) S else .stuck := by simp only [evS]
theorem evS_unp (is : List Nat) : evS cf (.unp is a) e S = (evE cf e false a S).bind fun x S => (Ro.opt (bindT (.tp is) x e) S).bind fun e S => .ok (.nx e) S := by simp only [evS]
theorem evS_aug (i : Nat) (o : Op) : evS cf (.aug i o a) e S = (Ro.opt (e.get i) S).bind fun x S => (evE cf e false a S).bind fun y S => (augD o x y S).bind fun z S => .ok (.nx (e.set i (some z))) S := by simp only [evS]
theorem evS_sti : evS cf (.sti a b c) e S = (evE cf e false c S).bind fun d S => (evE cf e false a S).bind fun x S => (evE cf e false b S).bind fun k S => stiS x k d e S := by simp only [evS]
theorem evS_sfl (f : Nat) : evS cf (.sfl a f b) e S = (evE cf e false b S).bind fun d S => (evE cf e false a S).bind fun x S => sflS x f d e S := by simp only [evS]
theorem evS_afl (f : Nat) (o : Op) : evS cf (.afl a f o b) e S = (evE cf e false a S).bind fun x S => (Ro.opt (fldC S x f) S).bind fun y S => (evE cf e false b S).bind fun z S => (augD o y.2 z S).bind fun d S => if isCls S x y.1 = true then sflS x f d e S else .stuck := by simp only [evS]
theorem evS_ex : evS cf (.ex a) e S = (evE cf e false a S).bind fun _ S => .ok (.nx e) S := by simp only [evS]
theorem evS_ret : evS cf (.ret a) e S = (evE cf e false a S).bind fun d S => .ok (.rt d) S := by simp only [evS]
theorem evS_rse (k : Nat) : evS cf (.rse k es) e S = (evEs cf e es S).bind fun xs S => .err k xs S := by simp only [evS]
def catS (x y : D) (i : Nat) (e : Env) (S : Store) : Ro Fl := match x.items S, y.items S with
    | some xs, some ys => if xs.length + ys.length ≤ SZ then .ok (.nx (e.set i (some (.obj S.length)))) (S ++ [.lst (xs ++ ys)]) else .stuck
    | _, _ => .stuck
theorem evS_cat (i : Nat) : evS cf (.cat i a b) e S = (evE cf e false a S).bind fun x S => (evE cf e false b S).bind fun y S => catS x y i e S := by simp only [evS]; rfl
theorem tst_f (r : Ro D) : tst false r = r := rfl
theorem tst_t (r : Ro D) : tst true r = r.bind fun d S => Ro.opt ((d.truth S).map .bl) S := rfl
theorem evE_var (i : Nat) : evE cf e m (.var i) S = tst m (Ro.opt (e.get i) S) := by simp only [evE]
theorem evE_lit (d : D) : evE cf e m (.lit d) S = tst m (.ok d S) := by simp only [evE]
theorem evE_glb (i : Nat) : evE cf e m (.glb i) S = tst m (Ro.opt cf.gl[i]? S) := by simp only [evE]
theorem evE_bin (o : Op) : evE cf e m (.bin o a b) S = tst m ((evE cf e false a S).bind fun x S => (evE cf e false b S).bind fun y S => Ro.opt (opD o S x y) S) := by simp only [evE]
def negD (x : D) (S : Store) : Ro D := match x with
  | .int i => .ok (.int (-i)) S
  | _ => .stuck
theorem negD_int (i : Int) : negD (.int i) S = .ok (.int (-i)) S := rfl
theorem evE_neg : evE cf e m (.neg a) S = tst m ((evE cf e false a S).bind negD) := by simp only [evE]; rfl
theorem evE_cmp (o : Cm) : evE cf e m (.cmp o a b) S = (evE cf e false a S).bind fun x S => (evE cf e false b S).bind fun y S => Ro.opt ((cmD o S x y).map .bl) S := by simp only [evE]
theorem evE_chn (o o' : Cm) : evE cf e m (.chn o o' a b c) S = (evE cf e false a S).bind fun x S => (evE cf e false b S).bind fun y S => (Ro.opt (cmD o S x y) S).bind fun k S =>
      if k = true then (evE cf e false c S).bind fun z S => Ro.opt ((cmD o' S y z).map .bl) S else .ok (.bl false) S := by simp only [evE]
theorem evE_tup : evE cf e m (.tup es) S = tst m ((evEs cf e es S).bind fun xs S => if xs.length ≤ SZ then .ok (.tup xs) S else .stuck) := by simp only [evE]
theorem evE_lst : evE cf e m (.lst es) S = tst m ((evEs cf e es S).bind fun xs S => if xs.length ≤ SZ then .ok (.lst xs) S else .stuck) := by simp only [evE]
theorem evE_nls : evE cf e m (.nls es) S = tst m ((evEs cf e es S).bind fun xs S => if xs.length ≤ SZ then .ok (.obj S.length) (S ++ [.lst xs]) else .stuck) := by simp only [evE]
theorem evE_edc : evE cf e m .edc S = tst m (.ok .edc S) := by simp only [evE]
theorem evE_idx : evE cf e m (.idx a b) S = tst m ((evE cf e false a S).bind fun x S => (evE cf e false b S).bind fun y S => Ro.opt (ixD S x y) S) := by simp only [evE]
theorem evE_slc : evE cf e m (.slc a b c) S = tst m ((evE cf e false a S).bind fun x S => (evP cf e b S).bind fun l S => (evP cf e c S).bind fun u S => Ro.opt (slcD S x l u) S) := by simp only [evE]
theorem evE_call (f : Nat) : evE cf e m (.call f es) S = tst m ((evEs cf e es S).bind fun xs S => cf.call f xs S) := by simp only [evE]
theorem evE_mc (c f : Nat) : evE cf e m (.mc c f a es) S = tst m ((evE cf e false a S).bind fun x S => if isCls S x c = true then (evEs cf e es S).bind fun xs S => if isCls S x c = true then cf.call f (x :: xs) S else .stuck else .stuck) := by simp only [evE]
theorem evE_bi (k : Bi) : evE cf e m (.bi k a) S = tst m ((evE cf e false a S).bind fun x S => Ro.opt (biD k S x) S) := by simp only [evE]
def nliD (x : D) (S : Store) : Ro D := match biD .list S x with
    | some (.lst xs) => .ok (.obj S.length) (S ++ [.lst xs])
    | _ => .stuck
theorem evE_nli : evE cf e m (.nli a) S = tst m ((evE cf e false a S).bind nliD) := by simp only [evE]; rfl
def sumlD (x : D) (S : Store) : Ro D := match (x.items S).bind lstsOf with
    | some ls => if ls.flatten.length ≤ SZ then .ok (.lst ls.flatten) S else .stuck
    | none => .stuck
theorem evE_suml : evE cf e m (.suml a) S = tst m ((evE cf e false a S).bind sumlD) := by simp only [evE]; rfl
theorem evE_isi (ts : List Ty) : evE cf e m (.isi a ts) S = tst m ((evE cf e false a S).bind fun x S => Ro.opt ((isiD S x ts).map .bl) S) := by simp only [evE]
theorem evE_me (k : Me) : evE cf e m (.me k a es) S = tst m ((evE cf e false a S).bind fun x S => if meT k S x = true then (evEs cf e es S).bind fun xs S => meR (meD k S x xs) else .stuck) := by simp only [evE]
theorem evE_fld (f : Nat) : evE cf e m (.fld a f) S = tst m ((evE cf e false a S).bind fun x S => Ro.opt (fldD S x f) S) := by simp only [evE]
theorem evE_grd (hs : List (Nat × List Nat)) (w : List Nat) : evE cf e m (.grd hs w a) S = tst m (grdD hs w (evE cf e false a S)) := by simp only [evE]
def nonB (x : D) (n : Nat) (S : Store) : Ro D := match x with
  | .non => .ok (.obj n) S
  | _ => .stuck
theorem evE_mk (c : Nat) : evE cf e m (.mk c es) S = tst m ((evEs cf e es S).bind fun xs S => (cf.call (cf.init c) (.obj S.length :: xs) (S ++ [.ins c []])).bind fun d S' => nonB d S.length S') := by simp only [evE]; rfl
def okL (ys : List D) (S : Store) : Ro D := if ys.length ≤ SZ then .ok (.lst ys) S else .stuck
theorem evE_lc (s : Sr) (t : Tg) (own : List Nat) (ifs : Exs) : evE cf e m (.lc s t own ifs a) S = tst m ((evR cf e s S).bind fun p S =>
      (lcLoop (fun x S => (Ro.opt (bindT t x (wipe e own)) S).bind fun e' S => (evIf cf e' ifs S).bind fun k S => if k = true then (evE cf e' false a S).bind fun d S => .ok (some d) S else .ok none S) p.2 p.1 S).bind okL) := by simp only [evE]; rfl
def blK (x : D) (S : Store) : Ro Bool := match x with
  | .bl k => .ok k S
  | _ => .stuck
theorem blK_bl (k : Bool) : blK (.bl k) S = .ok k S := rfl
theorem evIf_nil : evIf cf e .nil S = .ok true S := rfl
theorem evIf_cons : evIf cf e (.cons a es) S = (evE cf e true a S).bind blK := rfl
def walkR (x : D) (S : Store) : Ro (List D × List (Nat × List D)) := match walkD S x with
    | some xs => .ok (xs, x.watch xs) S
    | none => .stuck
theorem evR_val : evR cf e (.val a) S = (evE cf e false a S).bind walkR := by simp only [evR]; rfl
theorem walkR_S (s : List Nat) : walkR (.str s) S = .ok (s.map fun c => .str [c], []) S := rfl
theorem walkR_L (s : List D) : walkR (.lst s) S = .ok (s, []) S := rfl
theorem walkR_T (s : List D) : walkR (.tup s) S = .ok (s, []) S := rfl
end
theorem sz0 : (0 ≤ SZ) = True := eq_true (by decide)
theorem sz1 : (1 ≤ SZ) = True := eq_true (by decide)
theorem sz2 : (2 ≤ SZ) = True := eq_true (by decide)
theorem sz3 : (3 ≤ SZ) = True := eq_true (by decide)
theorem sz4 : (4 ≤ SZ) = True := eq_true (by decide)
theorem sz5 : (5 ≤ SZ) = True := eq_true (by decide)
theorem sz6 : (6 ≤ SZ) = True := eq_true (by decide)
theorem sz7 : (7 ≤ SZ) = True := eq_true (by decide)
theorem sz8 : (8 ≤ SZ) = True := eq_true (by decide)
theorem sz9 : (9 ≤ SZ) = True := eq_true (by decide)
theorem sz10 : (10 ≤ SZ) = True := eq_true (by decide)
theorem sz11 : (11 ≤ SZ) = True := eq_true (by decide)
theorem sz12 : (12 ≤ SZ) = True := eq_true (by decide)
theorem sz13 : (13 ≤ SZ) = True := eq_true (by decide)
theorem sz14 : (14 ≤ SZ) = True := eq_true (by decide)
theorem sz15 : (15 ≤ SZ) = True := eq_true (by decide)
theorem sz16 : (16 ≤ SZ) = True := eq_true (by decide)
theorem sz17 : (17 ≤ SZ) = True := eq_true (by decide)
theorem sz18 : (18 ≤ SZ) = True := eq_true (by decide)
theorem sz19 : (19 ≤ SZ) = True := eq_true (by decide)
theorem sz20 : (20 ≤ SZ) = True := eq_true (by decide)
theorem biInt (S : Store) (s : List Nat) : biD .int S (.str s) = (intS s).map .int := rfl
theorem biIntB (S : Store) (b : Bool) : biD .int S (.bl b) = some (.int (if b then 1 else 0)) := rfl
theorem biTupL (S : Store) (xs : List D) : biD .tuple S (.lst xs) = some (.tup xs) := rfl
theorem biTupT (S : Store) (xs : List D) : biD .tuple S (.tup xs) = some (.tup xs) := rfl
theorem biLisL (S : Store) (xs : List D) : biD .list S (.lst xs) = some (.lst xs) := rfl
theorem biLisT (S : Store) (xs : List D) : biD .list S (.tup xs) = some (.lst xs) := rfl
theorem emp_map {α β : Type} (f : α → β) (l : List α) : (l.map f).isEmpty = l.isEmpty := by cases l <;> rfl
/-- a call of data alone -/
theorem call_ok {P : Pg} {k f : Nat} {ds : List D} {S S' : Store} {d : D} (fn : Fn) (env : Env) (hfn : P.fns[f]? = some fn) (hl : (fn.lv || !D.pures ds) = false) (ha : ds.length = fn.ar) (he : ds.map some ++ List.replicate (fn.sl - fn.ar) none = env)
    (h : (evSs (P.cf (callF P k)) fn.bd env []).bind endFl = .ok d S') (hd : d.pure = true) : callF P (k + 1) f ds S = .ok d S := by
  rw [call_pure fn hfn hl, runB_eq _ _ _ _ ha, he, h, done_ok _ _ _ hd]
/-- a call with live objects -/
theorem call_lv {P : Pg} {k f : Nat} {ds : List D} {S : Store} (fn : Fn) (env : Env) (hfn : P.fns[f]? = some fn) (hl : (fn.lv || !D.pures ds) = true) (ha : ds.length = fn.ar) (he : ds.map some ++ List.replicate (fn.sl - fn.ar) none = env) :
    callF P (k + 1) f ds S = (evSs (P.cf (callF P k)) fn.bd env S).bind endFl := by
  rw [call_live fn hfn hl, runB_eq _ _ _ _ ha, he]
end Pw
local macro_rules | `(tactic| simp_arith [$ts,*]) => `(tactic| simp -implicitDefEqProofs only [Pw.evSs_nil, Pw.evSs_cons, Pw.evS_ife, Pw.evS_set, Pw.evS_par, Pw.evS_unp, Pw.evS_aug, Pw.evS_sti, Pw.evS_sfl, Pw.evS_afl, Pw.evS_ex, Pw.evS_ret, Pw.evS_rse, Pw.evS_cat, Pw.evE_and, Pw.evE_or, Pw.evE_not, Pw.evE_ife, Pw.evE_var, Pw.evE_lit, Pw.evE_glb, Pw.evE_bin, Pw.evE_neg, Pw.evE_cmp, Pw.evE_chn, Pw.evE_tup, Pw.evE_lst, Pw.evE_nls, Pw.evE_edc, Pw.evE_idx, Pw.evE_slc, Pw.evE_call, Pw.evE_mc, Pw.evE_bi, Pw.evE_nli, Pw.evE_suml, Pw.evE_isi, Pw.evE_me, Pw.evE_fld, Pw.evE_grd, Pw.evE_mk, Pw.negD_int, Pw.evIf_nil, Pw.evIf_cons, Pw.blK_bl, Pw.evR_val, Pw.walkR_S, Pw.walkR_L, Pw.walkR_T, Pw.tst_f, Pw.tst_t, Pw.brB_bl, Pw.notB_bl, Pw.flow_nx, Pw.flow_rt, Pw.endFl_nx, Pw.endFl_rt, Pw.bind_ite, Pw.done_ite, Pw.opt_ite, Pv.evEs, Pv.evP, Pv.Ro.bind_ok, Pv.Ro.bind_err, Pv.Ro.bind_stuck, Pv.Ro.opt_some, Pv.Ro.opt_none, Pv.Env.get, Option.bind_some, Option.map_some, Option.map_none, Bool.false_eq_true, if_true, if_false, List.map, List.replicate, List.append, List.length, id, Pw.cf_gl, Pw.cf_call, Pw.cf_init, List.set, Pv.bindT, Pv.wipe, Pv.setAll, id_eq, List.getElem?_cons_zero, List.getElem?_cons_succ, List.cons_append, List.nil_append, Nat.zero_add, Nat.reduceAdd, Pw.opAi, Pw.opSi, Pw.cmLt, Pw.cmLe, Pw.cmGt, Pw.cmGe, Pw.cmEs, Pw.cmNs, Pw.cmEi, Pw.cmNi, Pw.cmEb, Pw.cmNb, Pw.cmInS, Pw.cmNinS, Pw.cmIsNon, Pw.cmIsStr, Pw.cmIsInt, Pw.cmIsTup, Pw.cmIsLst, Pw.cmIsn, Pw.lenL, Pw.lenT, Pw.idxL, Pw.idxT, Pw.slcL, Pw.slcT, Pw.prtI, Pw.isiS, Pw.isiL, Pw.isiT, Pw.isiI, Pw.isiB, Pw.isiN, Pw.isiD', Pw.truB, Pw.truL, Pw.truT, Pw.truI, Pv.Ty.sub, List.any_cons, List.any_nil, reduceCtorEq, decide_true, decide_false, decide_eq_true_eq, not_true_eq_false, not_false_eq_true, Bool.or_false, Bool.false_or, Bool.and_false, Bool.false_and, Bool.and_self, Bool.true_and, Bool.and_true, Bool.not_true, Bool.not_false, Bool.true_or, Bool.or_true, Bool.not_not, Pw.atI_nat, Pw.atI_zero, Pw.atI_one, Pw.atI_two, Pw.atI_three, Pw.cut_one, Pw.cut_lo, Pw.cut_hi, Pw.cut_last, Pw.nat1, Pw.biInt, Pw.biIntB, Pw.biTupL, Pw.biTupT, Pw.biLisL, Pw.biLisT, Pw.emp_map, Pw.sz0, Pw.sz1, Pw.sz2, Pw.sz3, Pw.sz4, Pw.sz5, Pw.sz6, Pw.sz7, Pw.sz8, Pw.sz9, Pw.sz10, Pw.sz11, Pw.sz12, Pw.sz13, Pw.sz14, Pw.sz15, Pw.sz16, Pw.sz17, Pw.sz18, Pw.sz19, Pw.sz20, $ts,*])
namespace Pw
open Pv
theorem tw_hit {α : Type} {p : α → Bool} : ∀ {l : List α} {j : Nat}, j < (l.takeWhile p).length → ∃ c, l[j]? = some c ∧ p c = true
  | [], j, h => by simp at h
  | x :: l, j, h => by
    by_cases hx : p x = true
    · cases j with
      | zero => exact ⟨x, rfl, hx⟩
      | succ j =>
        rw [List.takeWhile_cons_of_pos hx] at h
        obtain ⟨c, h1, h2⟩ := tw_hit (l := l) (j := j) (by simpa using h)
        exact ⟨c, by simpa using h1, h2⟩
    · rw [List.takeWhile_cons_of_neg hx] at h; simp at h
theorem tw_end {α : Type} {p : α → Bool} : ∀ {l : List α}, (l[(l.takeWhile p).length]? = none ∧ (l.takeWhile p).length = l.length) ∨ ∃ c, l[(l.takeWhile p).length]? = some c ∧ p c = false ∧ (l.takeWhile p).length < l.length
  | [] => by simp
  | x :: l => by
    by_cases hx : p x = true
    · rw [List.takeWhile_cons_of_pos hx]
      rcases tw_end (p := p) (l := l) with h | ⟨c, h, h2, h3⟩
      · left; simpa using h
      · right; exact ⟨c, by simpa using h, h2, by simpa using h3⟩
    · rw [List.takeWhile_cons_of_neg hx]
      right; exact ⟨x, rfl, by simpa using hx, by simp⟩
theorem scan_hit {p : Nat → Bool} {w : List Nat} {st j : Nat} (h : j < ((w.drop st).takeWhile p).length) : ∃ c, w[st + j]? = some c ∧ p c = true ∧ st + j < w.length := by
  obtain ⟨c, h1, h2⟩ := tw_hit h
  rw [List.getElem?_drop] at h1
  exact ⟨c, h1, h2, (List.getElem?_eq_some_iff.mp h1).1⟩
theorem scan_end {p : Nat → Bool} {w : List Nat} {st : Nat} (hst : st ≤ w.length) : (st + ((w.drop st).takeWhile p).length = w.length) ∨ ∃ c, w[st + ((w.drop st).takeWhile p).length]? = some c ∧ p c = false ∧ st + ((w.drop st).takeWhile p).length < w.length := by
  rcases tw_end (p := p) (l := w.drop st) with ⟨h, h1⟩ | ⟨c, h, h2, h3⟩
  · left; rw [h1, List.length_drop]; omega
  · right
    rw [List.getElem?_drop] at h
    exact ⟨c, h, h2, (List.getElem?_eq_some_iff.mp h).1⟩
theorem tw_le {p : Nat → Bool} {w : List Nat} {st : Nat} (hst : st ≤ w.length) : st + ((w.drop st).takeWhile p).length ≤ w.length := by
  rcases scan_end (p := p) hst with h | ⟨_, _, _, h⟩ <;> omega
/-- a while that scans: var v goes on while the sign at it is in A -/
theorem whl_scan {c : Env → Store → Ro D} {b : Env → Store → Ro Fl} {S : Store} (w : List Nat) (A : List Nat) (E : Nat → Env) (st : Nat) (hst : st ≤ w.length) (hw : w.length ≤ 8000)
    (hc1 : ∀ i, i = w.length → c (E i) S = .ok (.bl false) S) (hc2 : ∀ i x, i < w.length → w[i]? = some x → c (E i) S = .ok (.bl (decide (x ∈ A))) S) (hb : ∀ i, i < w.length → b (E i) S = .ok (.nx (E (i + 1))) S) :
    whlLoop c b FUEL (E st) S = .ok (.nx (E (st + ((w.drop st).takeWhile fun x => decide (x ∈ A)).length))) S := by
  have hle := tw_le (p := fun x => decide (x ∈ A)) hst
  have hE := scan_end (p := fun x => decide (x ∈ A)) hst
  have hH := fun j => scan_hit (p := fun x => decide (x ∈ A)) (w := w) (st := st) (j := j)
  generalize ((w.drop st).takeWhile fun x => decide (x ∈ A)).length = n at hle hE hH
  refine whl_count (fun j => decide (j < n)) (fun j => E (st + j)) n ?_ (fun j hj => hb _ (by omega)) (fun j hj => by simp [hj]) (by simp) FUEL (Nat.lt_of_le_of_lt (show n ≤ 8000 by omega) (by decide))
  intro j hj
  by_cases hjn : j < n
  · obtain ⟨x, h1, h2, h3⟩ := hH j hjn
    rw [hc2 _ x h3 h1, h2]; simp [hjn]
  · obtain rfl : j = n := by omega
    rcases hE with h | ⟨x, h1, h2, h3⟩
    · rw [hc1 _ h]; simp
    · rw [hc2 _ x h3 h1, h2]; simp
end Pw
namespace Pw
open Pv
/-- [c for c in s if T] -/
theorem ev_filter {cf : Cf} {e : Env} {S : Store} {a : Ex} {j : Nat} {T : Ex} {s : List Nat} (p : Nat → Bool) (ha : evE cf e false a S = .ok (.str s) S) (hj : j < e.length) (hz : s.length ≤ SZ)
    (hT : ∀ c, evE cf ((e.set j none).set j (some (.str [c]))) true T S = .ok (.bl (p c)) S) :
    evE cf e false (.lc (.val a) (.nm j) [j] (.cons T .nil) (.var j)) S = .ok (.lst ((s.filter p).map fun c => .str [c])) S := by
  rw [evE_lc, tst_f, evR_val, ha, Ro.bind_ok, walkR_S, Ro.bind_ok]
  rw [lc_filter (p := p) s]
  · rw [Ro.bind_ok, okL, if_pos]
    rw [List.length_map]
    exact Nat.le_trans (List.length_filter_le _ _) hz
  · intro c
    simp_arith [hT]
    have : (e.set j none).length = e.length := by simp
    rw [List.getElem?_set_self (by omega)]
    cases p c <;> simp_arith [Ro.opt_some]
theorem okStr_sub {l l' : List Nat} (h : ∀ c ∈ l', c ∈ l) (hl : okStr l = true) : okStr l' = true := by
  simp only [okStr, List.all_eq_true, decide_eq_true_eq] at hl ⊢
  exact fun c hc => hl c (h c hc)
theorem okStr_filter {l : List Nat} (p : Nat → Bool) (hl : okStr l = true) : okStr (l.filter p) = true := okStr_sub (fun c hc => (List.mem_filter.mp hc).1) hl
theorem okStr_take {l : List Nat} (n : Nat) (hl : okStr l = true) : okStr (l.take n) = true := okStr_sub (fun c hc => List.mem_of_mem_take hc) hl
theorem okStr_drop {l : List Nat} (n : Nat) (hl : okStr l = true) : okStr (l.drop n) = true := okStr_sub (fun c hc => List.mem_of_mem_drop hc) hl
theorem filter_not_all {p : Nat → Bool} : ∀ {l : List Nat}, (l.filter fun c => !p c).isEmpty = l.all p
  | [] => rfl
  | c :: l => by cases h : p c <;> simp [h, List.filter_cons, ← filter_not_all (p := p) (l := l)]
theorem evEs_nil {cf : Cf} {e : Env} {S : Store} : evEs cf e .nil S = .ok [] S := rfl
/-- not in a written table of texts -/
theorem inT_strs (S : Store) (w : List Nat) (ks : List (List Nat)) : inD S (.str w) (.tup (ks.map .str)) = some (decide (w ∈ ks)) := by
  have h1 : (ks.map D.str).all D.flat = true := by rw [List.all_map]; exact List.all_eq_true.mpr fun _ _ => rfl
  show (if D.flat (.str w) && (ks.map D.str).all D.flat then some ((ks.map D.str).any fun y => y.flatEq (.str w)) else none) = _
  rw [h1]
  show some ((ks.map D.str).any fun y => y.flatEq (.str w)) = _
  congr 1
  rw [List.any_map]
  induction ks with
  | nil => simp
  | cons k ks ih =>
    have : (D.flatEq (.str k) (.str w)) = decide (w = k) := by
      show (k == w) = _
      by_cases h : k = w
      · simp [h]
      · simp [h, Ne.symm h]
    simp only [List.any_cons, Function.comp, this, List.mem_cons]
    rw [ih (by rw [List.all_map]; exact List.all_eq_true.mpr fun _ _ => rfl)]
    by_cases h1 : w = k <;> by_cases h2 : w ∈ ks <;> simp [h1, h2]
theorem inL_strs (S : Store) (w : List Nat) (ks : List (List Nat)) : inD S (.str w) (.lst (ks.map .str)) = some (decide (w ∈ ks)) := inT_strs S w ks
end Pw
namespace Pw
open Pv
/-- a comprehension over data whose body leaves the objects as they are, while live lists stand still -/
theorem lc_mapw {b : D → Store → Ro (Option D)} {S : Store} {w : List (Nat × List D)} (hs : still w S = true) (g : D → Option D) : ∀ (xs : List D), (∀ x ∈ xs, b x S = .ok (g x) S) → lcLoop b w xs S = .ok (xs.filterMap g) S
  | [], _ => rfl
  | x :: xs, h => by
    show ((b x S).sure.bind fun o S1 => if still w S1 = true then (lcLoop b w xs S1).bind fun ys S2 => .ok (consO o ys) S2 else .stuck) = _
    rw [h x (List.mem_cons_self ..)]
    show (if still w S = true then (lcLoop b w xs S).bind fun ys S2 => .ok (consO (g x) ys) S2 else .stuck) = _
    rw [if_pos hs, lc_mapw hs g xs fun y hy => h y (List.mem_cons_of_mem _ hy)]
    cases e : g x <;> simp [e, Ro.bind, consO]
theorem ev_map {cf : Cf} {e : Env} {S : Store} {s : Sr} {j : Nat} {ex : Ex} {xs : List D} {w : List (Nat × List D)} (hR : evR cf e s S = .ok (xs, w) S) (hs : still w S = true) (hl : xs.length ≤ SZ) (g : D → D)
    (hb : ∀ x ∈ xs, evE cf ((e.set j none).set j (some x)) false ex S = .ok (g x) S) : evE cf e false (.lc s (.nm j) [j] .nil ex) S = .ok (.lst (xs.map g)) S := by
  rw [evE_lc, tst_f, hR, Ro.bind_ok]
  rw [lc_mapw hs (fun x => some (g x)) xs]
  · rw [Ro.bind_ok, okL, List.filterMap_eq_map', if_pos (by simpa using hl)]
  · intro x hx
    simp_arith [hb x hx]
theorem still_one {S : Store} {n : Nat} {xs : List D} (h : S[n]? = some (.lst xs)) : still [(n, xs)] S = true := by
  simp [still, h, D.beqs_refl]
theorem walkR_obj {S : Store} {n : Nat} {xs : List D} (h : S[n]? = some (.lst xs)) : walkR (.obj n) S = .ok (xs, [(n, xs)]) S := by
  simp only [walkR, walkD, D.items, h, D.watch]
theorem strsOf_map : ∀ ls : List (List Nat), strsOf (ls.map .str) = some ls
  | [] => rfl
  | l :: ls => by simp only [List.map, strsOf, strsOf_map ls, Option.map_some]
theorem intsOf_map : ∀ ls : List Int, intsOf (ls.map .int) = some ls
  | [] => rfl
  | l :: ls => by simp only [List.map, intsOf, intsOf_map ls, Option.map_some]
theorem joinS_nil : ∀ ls : List (List Nat), joinS [] ls = ls.flatten
  | [] => rfl
  | [l] => by simp [joinS]
  | l :: m :: ls => by
    show l ++ ([] ++ joinS [] (m :: ls)) = _
    rw [joinS_nil (m :: ls)]; simp
theorem me_join {S : Store} (s : List Nat) (ls : List (List Nat)) (h : (ls.map (·.length)).sum + ls.length * s.length ≤ SZ) : meD .join S (.str s) [.lst (ls.map .str)] = some (.str (joinS s ls), S) := by
  show (match (some (ls.map D.str)).bind strsOf with
      | some ys => if (ys.map List.length).sum + ys.length * s.length ≤ SZ then some (D.str (joinS s ys), S) else none
      | none => none) = _
  rw [Option.bind_some, strsOf_map]
  simp only [if_pos h]
theorem me_join0 {S : Store} (ls : List (List Nat)) (h : ls.flatten.length ≤ SZ) : meD .join S (.str []) [.lst (ls.map .str)] = some (.str ls.flatten, S) := by
  rw [me_join [] ls (by simpa using h), joinS_nil]
theorem meT_str (m : Me) (h : m.ofL = false) (S : Store) (s : List Nat) : meT m S (.str s) = true := by simp [meT, h, D.isS]
theorem meT_join (S : Store) (s : List Nat) : meT .join S (.str s) = true := rfl
theorem meT_split (S : Store) (s : List Nat) : meT .split S (.str s) = true := rfl
theorem me_split {S : Store} (c : Nat) (s : List Nat) (h : s.length + 2 ≤ SZ) (hc : c < 256) : meD .split S (.str s) [.str [c]] = some (.lst ((splitC c [] s).map .str), S) := by
  show (if s.length + 2 ≤ SZ ∧ c < 256 then some (D.lst ((splitC c [] s).map .str), S) else none) = _
  rw [if_pos ⟨h, hc⟩]
theorem meR_some (d : D) (S : Store) : meR (some (d, S)) = .ok d S := rfl
theorem meT_app {S : Store} {n : Nat} {xs : List D} (h : S[n]? = some (.lst xs)) : meT .append S (.obj n) = true := by simp [meT, Me.ofL, live, h]
theorem meT_ext {S : Store} {n : Nat} {xs : List D} (h : S[n]? = some (.lst xs)) : meT .extend S (.obj n) = true := by simp [meT, Me.ofL, live, h]
theorem me_app {S : Store} {n : Nat} {xs : List D} (y : D) (h : S[n]? = some (.lst xs)) (hl : xs.length < SZ) : meD .append S (.obj n) [y] = some (.non, S.set n (.lst (xs ++ [y]))) := by
  show (match S[n]? with | some (.lst xs) => if xs.length < SZ then some (D.non, S.set n (.lst (xs ++ [y]))) else none | _ => none) = _
  rw [h]; simp only [if_pos hl]
theorem me_ext {S : Store} {n : Nat} {xs ys : List D} (y : D) (h : S[n]? = some (.lst xs)) (hy : y.items S = some ys) (hl : xs.length + ys.length ≤ SZ) : meD .extend S (.obj n) [y] = some (.non, S.set n (.lst (xs ++ ys))) := by
  show (match S[n]?, y.items S with | some (.lst xs), some ys => if xs.length + ys.length ≤ SZ then some (D.non, S.set n (.lst (xs ++ ys))) else none | _, _ => none) = _
  rw [h, hy]; simp only [if_pos hl]
theorem splitC_ne (c : Nat) : ∀ (s acc : List Nat), splitC c acc s ≠ []
  | [], acc => by simp [splitC]
  | x :: s, acc => by
    unfold splitC
    split
    · simp
    · exact splitC_ne c s _
theorem splitC_mem (c : Nat) : ∀ (s acc : List Nat) (x : List Nat), x ∈ splitC c acc s → (∀ a ∈ x, a ∈ acc ∨ a ∈ s) ∧ x.length ≤ acc.length + s.length
  | [], acc, x, h => by
    simp only [splitC, List.mem_singleton] at h
    subst h
    exact ⟨fun a ha => .inl ha, by simp⟩
  | y :: s, acc, x, h => by
    unfold splitC at h
    split at h
    · (rcases List.mem_cons.mp h with rfl | h)
      · exact ⟨fun a ha => .inl ha, by simp⟩
      · obtain ⟨h1, h2⟩ := splitC_mem c s [] x h
        refine ⟨fun a ha => .inr (List.mem_cons_of_mem _ ?_), by simp at h2 ⊢; omega⟩
        rcases h1 a ha with h | h
        · cases h
        · exact h
    · obtain ⟨h1, h2⟩ := splitC_mem c s _ x h
      refine ⟨fun a ha => ?_, by simp at h2 ⊢; omega⟩
      rcases h1 a ha with h | h
      · (rcases List.mem_append.mp h with h | h)
        · exact .inl h
        · rw [List.mem_singleton.mp h]; exact .inr (List.mem_cons_self ..)
      · exact .inr (List.mem_cons_of_mem _ h)
theorem splitC_len (c : Nat) : ∀ (s acc : List Nat), (splitC c acc s).length ≤ s.length + 1
  | [], acc => by simp [splitC]
  | y :: s, acc => by
    unfold splitC
    split
    · have := splitC_len c s []; simp; omega
    · have := splitC_len c s (acc ++ [y]); simp; omega
theorem okStr_split {c : Nat} {s x : List Nat} (h : x ∈ splitC c [] s) (hs : okStr s = true) : okStr x = true :=
  okStr_sub (fun a ha => by rcases (splitC_mem c s [] x h).1 a ha with h | h; cases h; exact h) hs
theorem len_split {c : Nat} {s x : List Nat} (h : x ∈ splitC c [] s) : x.length ≤ s.length := by simpa using (splitC_mem c s [] x h).2
end Pw
namespace K85m
open Pv Pw K85
abbrev Sg := List Nat
abbrev LET : Sg := [97, 98, 99, 100, 101, 102, 103, 104, 105, 106, 107, 108, 109, 110, 111, 112, 113, 114, 115, 116, 117, 118, 119, 120, 121, 122]
abbrev FIG : Sg := [48, 49, 50, 51, 52, 53, 54, 55, 56, 57]
abbrev SIG : Sg := [97, 98, 99, 100, 101, 102, 103, 104, 105, 106, 107, 108, 109, 110, 111, 112, 113, 114, 115, 116, 117, 118, 119, 120, 121, 122, 48, 49, 50, 51, 52, 53, 54, 55, 56, 57, 60, 62, 40, 41, 91, 93, 44, 59, 58, 61, 43, 45, 46, 47, 32]
abbrev LF : Sg := [97, 98, 99, 100, 101, 102, 103, 104, 105, 106, 107, 108, 109, 110, 111, 112, 113, 114, 115, 116, 117, 118, 119, 120, 121, 122, 48, 49, 50, 51, 52, 53, 54, 55, 56, 57]
def isF (c : Nat) : Bool := decide (c ∈ FIG)
def inSg (c : Nat) : Bool := decide (c ∈ SIG)
/-- whether signs ahead are figures of a number in shortest form -/
def badF (f : Sg) (neg : Bool) : Bool := !(decide (1 ≤ f.length) && decide (f.length ≤ 9)) || (decide (f.take 1 = [48]) && (!decide (f = [48]) || neg))
/-- the number ahead -/
def numR (s : Sg) : Option (D × Nat) :=
  let neg : Bool := decide (s.take 1 = [45])
  let f := (s.drop neg.toNat).takeWhile isF
  if badF f neg then none else some (.int (if neg then -(digVal f : Int) else digVal f), neg.toNat + f.length)
def resT (i : Nat) : Option (D × Nat) → D
  | none => .non
  | some (x, n) => .tup [x, .int ((i + n : Nat) : Int)]
def resL (i : Nat) : Option (D × Nat) → D
  | none => .non
  | some (x, n) => .lst [x, .int ((i + n : Nat) : Int)]
theorem glF : pg.gl[1]? = some (.str FIG) := rfl
theorem gl8 : pg.gl[8]? = some (.int 9) := rfl
theorem isF_dig {c : Nat} (h : isF c = true) : isDig c = true := by
  have h : c ∈ FIG := of_decide_eq_true h
  have h2 : ∀ c ∈ FIG, isDig c = true := by decide
  exact h2 c h
theorem allDig {f : Sg} (h : ∀ c ∈ f, isF c = true) : f.all isDig = true := by
  rw [List.all_eq_true]
  exact fun c hc => isF_dig (h c hc)
theorem tw_all {p : Nat → Bool} {l : Sg} : ∀ c ∈ l.takeWhile p, p c = true := by
  intro c hc
  obtain ⟨j, hj, e⟩ := List.mem_iff_getElem.mp hc
  have h := tw_hit hj
  obtain ⟨d, h1, h2⟩ := h
  have : (l.takeWhile p)[j]? = l[j]? := by
    rw [← List.takeWhile_append_dropWhile (p := p) (l := l)] 
    rw [List.getElem?_append_left]
    · simp
    · simpa using hj
  rw [h1, List.getElem?_eq_getElem hj, e] at this
  cases this
  exact h2
theorem intS_figs {f : Sg} (h : ∀ c ∈ f, isF c = true) (h1 : f ≠ []) (h2 : f.length ≤ 9) : intS f = some (digVal f : Int) := by
  have hd := allDig h
  cases f with
  | nil => exact absurd rfl h1
  | cons c f =>
    have hc : c ≠ 45 := by rintro rfl; exact absurd (h 45 (List.mem_cons_self ..)) (by decide)
    unfold intS
    split
    · rename_i r heq; cases heq; exact absurd rfl hc
    · rw [if_pos ⟨by simp, hd, by omega⟩]
theorem intS_neg {f : Sg} (h : ∀ c ∈ f, isF c = true) (h1 : f ≠ []) (h2 : f.length ≤ 9) : intS (45 :: f) = some (-(digVal f : Int)) := by
  have hd := allDig h
  show (if f ≠ [] ∧ f.all isDig ∧ f.length ≤ 600 then some (-(digVal f : Int)) else none) = _
  rw [if_pos ⟨h1, hd, by omega⟩]
theorem number_tail (k : Nat) (w : Sg) (i : Nat) (neg : Bool) (hz : w.length ≤ 8000) (hi : i + neg.toNat ≤ w.length) (hn : neg = decide ((w.drop i).take 1 = [45])) :
    (evSs (pg.cf (callF pg k)) b_number_at_1 [some (.str w), some (.int (i : Int)), some (.int ((i + neg.toNat : Nat) : Int)), none, none] []).bind endFl = .ok (resT i (numR (w.drop i))) [] := by
  have h1 : w.length ≤ SZ := Nat.le_trans hz (by decide)
  unfold b_number_at_1
  simp_arith []
  unfold b_number_at_2
  rw [evSs_cons, evS_whl]
  unfold b_number_at_2c b_number_at_2a_0
  rw [whl_scan w FIG (fun j => [some (.str w), some (.int (i : Int)), some (.int ((i + neg.toNat : Nat) : Int)), some (.int (j : Int)), none]) (i + neg.toNat) hi hz]
  rotate_left
  · intro j hj
    subst hj
    simp_arith [lenS _ _ h1, Int.lt_irrefl]
  · intro j x hj hx
    have : (j : Int) < (w.length : Int) := by omega
    simp_arith [lenS _ _ h1, this, idxS _ _ _ h1, hx, glF]
  · intro j hj
    simp_arith [augD]
  rw [Ro.bind_ok, flow_nx]
  unfold b_number_at_3
  have hdd : w.drop (i + neg.toNat) = (w.drop i).drop neg.toNat := by rw [List.drop_drop]
  have hle := tw_le (p := isF) (w := w) hi
  have htk : cut w (some ((i + neg.toNat : Nat) : Int)) (some ((i + neg.toNat + (List.takeWhile isF (w.drop (i + neg.toNat))).length : Nat) : Int)) = List.takeWhile isF (w.drop (i + neg.toNat)) := by
    rw [cut_nn _ _ _ hle, Nat.add_sub_cancel_left]
    conv => lhs; arg 2; rw [← List.takeWhile_append_dropWhile (p := isF) (l := w.drop (i + neg.toNat))]
    rw [List.take_left]
  have hall := tw_all (p := isF) (l := w.drop (i + neg.toNat))
  have hcut : cut w (some (i : Int)) (some ((i + neg.toNat + (List.takeWhile isF (w.drop (i + neg.toNat))).length : Nat) : Int)) = (if neg then [45] else []) ++ List.takeWhile isF (w.drop (i + neg.toNat)) := by
    rw [cut_nn _ _ _ hle]
    cases neg with
    | false =>
      simp only [Bool.toNat_false, Nat.add_zero, Bool.false_eq_true, if_false, List.nil_append] at htk hle ⊢
      rw [cut_nn _ _ _ hle] at htk
      exact htk
    | true =>
      have h45 : (w.drop i).take 1 = [45] := by simpa using hn.symm
      obtain ⟨r, hr⟩ : ∃ r, w.drop i = 45 :: r := by
        cases hq : w.drop i with
        | nil => rw [hq] at h45; simp at h45
        | cons a r => rw [hq] at h45; simp at h45; exact ⟨r, by rw [h45]⟩
      simp only [Bool.toNat_true, if_true] at htk hle ⊢
      rw [show w.drop (i + 1) = r by rw [← List.drop_drop, hr]; rfl] at htk hle ⊢
      rw [cut_nn _ _ _ hle, Nat.add_sub_cancel_left, ← List.drop_drop, hr] at htk
      rw [hr, show i + 1 + (List.takeWhile isF r).length - i = (List.takeWhile isF r).length + 1 by omega, List.take_succ_cons]
      simp only [List.drop_one, List.tail_cons] at htk
      rw [htk]; rfl
  rw [show (fun x => decide (x ∈ FIG)) = isF from rfl]
  unfold numR
  simp only [← hn, ← hdd]
  generalize hf : List.takeWhile isF (w.drop (i + neg.toNat)) = f at htk hall hcut hle
  have hfz : f.length ≤ SZ := Nat.le_trans (show f.length ≤ 8000 by omega) (by decide)
  simp_arith [slcS _ _ _ _ h1, htk]
  have e1 : ((1 : Int) ≤ (f.length : Int)) ↔ 1 ≤ f.length := by omega
  have e2 : ((f.length : Int) ≤ 9) ↔ f.length ≤ 9 := by omega
  have e3 : ((i : Int) < ((i + neg.toNat : Nat) : Int)) ↔ neg = true := by cases neg <;> simp <;> omega
  have hcond : ∀ cf : Cf, cf.gl = pg.gl → evE cf [some (.str w), some (.int (i : Int)), some (.int ((i + neg.toNat : Nat) : Int)), some (.int ((i + neg.toNat + f.length : Nat) : Int)), some (.str f)] true
      (.or (.not (.chn .le .le (.lit (.int 1)) (.bi .len (.var 4)) (.glb 8))) (.and (.cmp .eq (.idx (.var 4) (.lit (.int 0))) (.lit (.str [48]))) (.or (.cmp .ne (.var 4) (.lit (.str [48]))) (.cmp .gt (.var 2) (.var 1))))) [] = .ok (.bl (badF f neg)) [] := by
    intro cf hcf
    simp_arith [lenS _ _ hfz, hcf, gl8]
    by_cases c1 : 1 ≤ f.length
    · by_cases c2 : f.length ≤ 9
      · cases f with
        | nil => simp at c1
        | cons a f' =>
          simp only [e1, e2, c1, c2]
          simp_arith [idxS _ _ _ hfz, e3, badF, c1, c2, List.take_succ_cons, List.take_zero]
          by_cases g1 : a = 48
          · subst g1
            by_cases g2 : f' = []
            · subst g2; cases neg <;> simp
            · cases neg <;> simp [g2]
          · simp only [List.length_cons] at c2
            simp [g1]; omega
      · simp only [e1, e2, c1, c2]; simp_arith [badF, c1, c2]
    · simp only [e1, e2, c1]; simp_arith [badF, c1]
  unfold b_number_at_4
  rw [evSs_cons, evS_ife, hcond _ rfl]
  cases hb : badF f neg with
  | true => simp_arith []; rfl
  | false =>
    simp_arith []
    have hb2 := hb
    simp only [badF, Bool.or_eq_false_iff, Bool.not_eq_false', Bool.and_eq_true, decide_eq_true_eq] at hb2
    have hne : f ≠ [] := by rintro rfl; simp at hb2
    have hint : intS ((if neg then [45] else []) ++ f) = some (if neg then -(digVal f : Int) else digVal f) := by
      cases neg with
      | true => exact intS_neg hall hne hb2.1.2
      | false => exact intS_figs hall hne hb2.1.2
    unfold b_number_at_5
    simp_arith [slcS _ _ _ _ h1, hcut, biD, hint]
    simp only [resT, Nat.add_assoc]
theorem numR_pure {s : Sg} {x : D} {n : Nat} (h : numR s = some (x, n)) : ∃ i, x = .int i := by
  simp only [numR] at h
  split at h
  · cases h
  · cases h; exact ⟨_, rfl⟩
theorem resT_pure (i : Nat) (o : Option (D × Nat)) (h : ∀ x n, o = some (x, n) → x.pure = true) : (resT i o).pure = true := by
  cases o with
  | none => rfl
  | some p => obtain ⟨x, n⟩ := p; simp [resT, D.pure, D.pures, h x n rfl]
theorem call_number (k : Nat) (w : Sg) (i : Nat) (S : Store) (hz : w.length ≤ 8000) (hi : i ≤ w.length) :
    callF pg (k + 1) 6 [.str w, .int (i : Int)] S = .ok (resT i (numR (w.drop i))) S := by
  have h1 : w.length ≤ SZ := Nat.le_trans hz (by decide)
  have hp : (resT i (numR (w.drop i))).pure = true := resT_pure _ _ fun x n h => by obtain ⟨j, rfl⟩ := numR_pure h; rfl
  refine call_ok ⟨2, 5, false, b_number_at_0⟩ _ rfl rfl rfl rfl ?_ hp (S' := [])
  unfold b_number_at_0
  by_cases hn : (w.drop i).take 1 = [45]
  · have hl : i + 1 ≤ w.length := by
      have := congrArg List.length hn
      simp only [List.length_take, List.length_drop, List.length_cons, List.length_nil] at this
      omega
    have := number_tail k w i true hz hl (by simp [hn])
    simp_arith [slcS _ _ _ _ h1, hn]
    exact this
  · have := number_tail k w i false hz hi (by simp [hn])
    simp_arith [slcS _ _ _ _ h1, hn]
    exact this
end K85m
namespace K85m
open Pv Pw K85
theorem gl0 : pg.gl[0]? = some (.str LET) := rfl
theorem gl2 : pg.gl[2]? = some (.str SIG) := rfl
theorem gl5 : pg.gl[5]? = some (.int 8000) := rfl
theorem call_text (k : Nat) (w : Sg) (S : Store) (hz : w.length ≤ 8000) (hk : okStr w = true) :
    callF pg (k + 1) 0 [.str w, .str SIG, .int 8000] S = .ok (.bl (w.all inSg)) S := by
  have h1 : w.length ≤ SZ := Nat.le_trans hz (by decide)
  refine call_ok ⟨3, 4, false, b_is_text⟩ _ rfl rfl rfl rfl ?_ rfl (S' := [])
  unfold b_is_text
  have hF := ev_filter (cf := pg.cf (callF pg k)) (e := [some (.str w), some (.str SIG), some (.int 8000), none]) (S := []) (a := .var 0) (j := 3) (T := .cmp .nin (.var 3) (.var 1)) (s := w) (fun c => !inSg c) (by simp_arith []) (by simp) h1 (fun c => by simp_arith [inSg])
  have h2 : (w.length : Int) ≤ 8000 := by omega
  simp_arith [lenS _ _ h1, h2, hF, eq_signs _ (okStr_filter _ hk), filter_not_all]
def KEY : List Sg := [[115, 105, 103, 110, 115], [102, 111, 114, 109, 97, 116], [110, 117, 109], [116, 111], [117, 112], [112, 97, 100], [119, 111, 114, 100], [111, 110, 101], [111, 114], [109, 97, 110, 121], [115, 111, 109, 101], [98, 121], [109, 97, 121, 98, 101], [101, 105, 116, 104, 101, 114]]
theorem gl3 : pg.gl[3]? = some (.tup (KEY.map .str)) := rfl
def inLF (c : Nat) : Bool := decide (c ∈ LET) || decide (c ∈ FIG)
def hdLet : Sg → Bool
  | [] => false
  | c :: _ => decide (c ∈ LET)
def nameB (w : Sg) : Bool := decide (1 ≤ w.length) && (decide (w.length ≤ 8) && (!decide (w ∈ KEY) && (hdLet w && w.all inLF)))
theorem call_name (k : Nat) (w : Sg) (S : Store) (hz : w.length ≤ 8000) (hk : okStr w = true) :
    callF pg (k + 1) 1 [.str w] S = .ok (.bl (nameB w)) S := by
  have h1 : w.length ≤ SZ := Nat.le_trans hz (by decide)
  refine call_ok ⟨1, 2, false, b_is_name_0⟩ _ rfl rfl rfl rfl ?_ rfl (S' := [])
  have e1 : ((1 : Int) ≤ (w.length : Int)) ↔ 1 ≤ w.length := by omega
  have e2 : ((w.length : Int) ≤ 8) ↔ w.length ≤ 8 := by omega
  have hF := ev_filter (cf := pg.cf (callF pg k)) (e := [some (.str w), none]) (S := []) (a := .var 0) (j := 1) (T := .and (.cmp .nin (.var 1) (.glb 0)) (.cmp .nin (.var 1) (.glb 1))) (s := w) (fun c => !inLF c) (by simp_arith []) (by simp) h1 (fun c => by
    simp_arith [gl0, glF, inLF, Bool.not_or]
    cases decide (c ∈ LET) <;> simp)
  have hin : ∀ S, cmD .in_ S (.str w) (.tup (KEY.map .str)) = some (decide (w ∈ KEY)) := fun S => inT_strs S w KEY
  unfold b_is_name_0
  have hrest : (evSs (pg.cf (callF pg k)) b_is_name_1 [some (.str w), none] []).bind endFl = .ok (.bl (w.all inLF)) [] := by
    unfold b_is_name_1
    simp_arith [hF, eq_signs _ (okStr_filter _ hk), filter_not_all]
  unfold nameB
  by_cases c1 : 1 ≤ w.length
  · by_cases c2 : w.length ≤ 8
    · obtain ⟨a, w', hw⟩ : ∃ a w', w = a :: w' := by
        cases w with
        | nil => simp at c1
        | cons a w' => exact ⟨a, w', rfl⟩
      have hw0 : w[0]? = some a := by rw [hw]; rfl
      have hwl : hdLet w = decide (a ∈ LET) := by rw [hw]; rfl
      by_cases c3 : w ∈ KEY
      · simp_arith [lenS _ _ h1, e1, e2, c1, c2, gl3, hin, c3]
      · by_cases c4 : a ∈ LET
        · simp_arith [lenS _ _ h1, e1, e2, c1, c2, gl3, hin, gl0, idxS _ _ _ h1, hwl, hw0, c3, c4]
          exact hrest
        · simp_arith [lenS _ _ h1, e1, e2, c1, c2, gl3, hin, gl0, idxS _ _ _ h1, hwl, hw0, c3, c4]
    · simp_arith [lenS _ _ h1, e1, e2, c1, c2]
  · simp_arith [lenS _ _ h1, e1, c1]
end K85m
namespace K85m
open Pv Pw K85
theorem evE_lc_t {cf : Cf} {e : Env} {a : Ex} {S : Store} (s : Sr) (t : Tg) (own : List Nat) (ifs : Exs) : evE cf e true (.lc s t own ifs a) S = (evE cf e false (.lc s t own ifs a) S).bind fun d S => Ro.opt ((d.truth S).map .bl) S := by
  rw [evE_lc, evE_lc, tst_t, tst_f]
/-- a number in shortest form -/
def figR (w : Sg) : Option Nat := if decide (1 ≤ w.length) && (decide (w.length ≤ 4) && (w.all isF && !(decide (w.take 1 = [48]) && !decide (w = [48])))) then some (digVal w) else none
def natO : Option Nat → D
  | none => .non
  | some n => .int (n : Int)
theorem call_figure (k : Nat) (w : Sg) (S : Store) (hz : w.length ≤ 8000) (hk : okStr w = true) :
    callF pg (k + 1) 12 [.str w] S = .ok (natO (figR w)) S := by
  have h1 : w.length ≤ SZ := Nat.le_trans hz (by decide)
  refine call_ok ⟨1, 2, false, b_figure_of_0⟩ _ rfl rfl rfl rfl ?_ (by cases figR w <;> rfl) (S' := [])
  have e1 : ((1 : Int) ≤ (w.length : Int)) ↔ 1 ≤ w.length := by omega
  have e2 : ((w.length : Int) ≤ 4) ↔ w.length ≤ 4 := by omega
  have hF := ev_filter (cf := pg.cf (callF pg k)) (e := [some (.str w), none]) (S := []) (a := .var 0) (j := 1) (T := .cmp .nin (.var 1) (.glb 1)) (s := w) (fun c => !isF c) (by simp_arith []) (by simp) h1 (fun c => by
    simp_arith [glF, isF])
  unfold b_figure_of_0 figR
  by_cases c1 : 1 ≤ w.length
  · by_cases c2 : w.length ≤ 4
    · obtain ⟨a, w', hw⟩ : ∃ a w', w = a :: w' := by
        cases w with
        | nil => simp at c1
        | cons a w' => exact ⟨a, w', rfl⟩
      have hw0 : w[0]? = some a := by rw [hw]; rfl
      have hw1 : w.take 1 = [a] := by rw [hw]; rfl
      cases c3 : w.all isF with
      | false => simp_arith [lenS _ _ h1, e1, e2, c1, c2, evE_lc_t, hF, filter_not_all, c3, natO]
      | true =>
        have hint : intS w = some (digVal w : Int) := intS_figs (fun c hc => List.all_eq_true.mp c3 c hc) (by rw [hw]; simp) (by omega)
        by_cases c4 : a = 48
        · subst c4
          by_cases c5 : w = [48]
          · have d5 : decide (w = [48]) = true := decide_eq_true c5
            simp_arith [lenS _ _ h1, e1, e2, c1, c2, evE_lc_t, hF, filter_not_all, c3, idxS _ _ _ h1, hw0, hw1, d5]
            unfold b_figure_of_1
            simp_arith [hint, natO]
          · simp_arith [lenS _ _ h1, e1, e2, c1, c2, evE_lc_t, hF, filter_not_all, c3, idxS _ _ _ h1, hw0, hw1, c5, natO]
        · have c4' : ¬ [a] = [48] := by simpa using c4
          simp_arith [lenS _ _ h1, e1, e2, c1, c2, evE_lc_t, hF, filter_not_all, c3, idxS _ _ _ h1, hw0, hw1, c4']
          unfold b_figure_of_1
          simp_arith [hint, natO]
    · simp_arith [lenS _ _ h1, e1, e2, c1, c2, natO]
  · simp_arith [lenS _ _ h1, e1, c1, natO]
theorem call_mname (k : Nat) (w : Sg) (S : Store) (hz : w.length ≤ 8000) (hk : okStr w = true) :
    callF pg (k + 1) 31 [.str w] S = .ok (.bl (nameB w)) S := by
  have h1 : w.length ≤ SZ := Nat.le_trans hz (by decide)
  refine call_ok ⟨1, 3, false, b__law_mname_0⟩ _ rfl rfl rfl rfl ?_ rfl (S' := [])
  have e1 : ((0 : Int) < (w.length : Int)) ↔ 1 ≤ w.length := by omega
  have e2 : ((w.length : Int) < 9) ↔ w.length ≤ 8 := by omega
  have hlf : ∀ c, inLF c = decide (c ∈ LF) := fun c => by
    have e : LF = LET ++ FIG := rfl
    unfold inLF
    rw [e]
    by_cases h1 : c ∈ LET <;> by_cases h2 : c ∈ FIG <;> simp only [h1, h2, List.mem_append, or_true, true_or, or_self, decide_true, decide_false, Bool.or_true, Bool.true_or, Bool.or_self]
  have hF := ev_filter (cf := pg.cf (callF pg k)) (e := [some (.str w), some (.lst (KEY.map .str)), none]) (S := []) (a := .var 0) (j := 2) (T := .cmp .nin (.var 2) (.lit (.str LF))) (s := w) (fun c => !inLF c) (by simp_arith []) (by simp) h1 (fun c => by
    simp_arith [hlf])
  have hin : ∀ S, cmD .nin S (.str w) (.lst (KEY.map .str)) = some (!decide (w ∈ KEY)) := fun S => by
    show (inD S (.str w) (.lst (KEY.map .str))).map (!·) = _
    rw [inL_strs S w KEY]; rfl
  have hrest : (evSs (pg.cf (callF pg k)) b__law_mname_1 [some (.str w), none, none] []).bind endFl = .ok (.bl (!decide (w ∈ KEY) && w.all inLF)) [] := by
    unfold b__law_mname_1
    simp_arith []
    unfold b__law_mname_2
    simp only [KEY, List.map] at hF hin
    cases c3 : decide (w ∈ KEY) with
    | true =>
      simp only [KEY] at c3
      simp_arith [hin, c3]
    | false =>
      simp only [KEY] at c3
      simp_arith [hin, c3, hF, eq_signs _ (okStr_filter _ hk), filter_not_all]
  unfold nameB b__law_mname_0
  by_cases c1 : 1 ≤ w.length
  · by_cases c2 : w.length ≤ 8
    · obtain ⟨a, w', hw⟩ : ∃ a w', w = a :: w' := by
        cases w with
        | nil => simp at c1
        | cons a w' => exact ⟨a, w', rfl⟩
      have hw0 : w[0]? = some a := by rw [hw]; rfl
      have hwl : hdLet w = decide (a ∈ LET) := by rw [hw]; rfl
      by_cases c4 : a ∈ LET
      · simp_arith [lenS _ _ h1, e1, e2, c1, c2, idxS _ _ _ h1, hwl, hw0, c4]
        exact hrest
      · simp_arith [lenS _ _ h1, e1, e2, c1, c2, idxS _ _ _ h1, hwl, hw0, c4]
    · simp_arith [lenS _ _ h1, e1, e2, c1, c2]
  · simp_arith [lenS _ _ h1, e1, c1]
def cntB (w : Sg) : Bool := match figR w with
  | some n => decide (n ≤ 8000)
  | none => false
theorem call_count (k : Nat) (w : Sg) (S : Store) (hz : w.length ≤ 8000) (hk : okStr w = true) :
    callF pg (k + 1) 32 [.str w] S = .ok (.bl (cntB w)) S := by
  have h1 : w.length ≤ SZ := Nat.le_trans hz (by decide)
  refine call_ok ⟨1, 2, false, b__law_mcount_in_0⟩ _ rfl rfl rfl rfl ?_ rfl (S' := [])
  have e1 : ((0 : Int) < (w.length : Int)) ↔ 1 ≤ w.length := by omega
  have e2 : ((w.length : Int) < 5) ↔ w.length ≤ 4 := by omega
  have hF := ev_filter (cf := pg.cf (callF pg k)) (e := [some (.str w), none]) (S := []) (a := .var 0) (j := 1) (T := .cmp .nin (.var 1) (.lit (.str [48, 49, 50, 51, 52, 53, 54, 55, 56, 57]))) (s := w) (fun c => !isF c) (by simp_arith []) (by simp) h1 (fun c => by
    simp_arith [isF, FIG])
  have hne : ∀ l : List Nat, okStr l = true → ∀ S, cmD .ne S (.lst (l.map fun c => .str [c])) (.lst []) = some (!l.isEmpty) := fun l h S => by
    have := eq_signs l h S
    show (cmD .eq S _ _).map _ = _
    rw [this]; rfl
  unfold b__law_mcount_in_0 cntB figR
  by_cases c1 : 1 ≤ w.length
  · by_cases c2 : w.length ≤ 4
    · obtain ⟨a, w', hw⟩ : ∃ a w', w = a :: w' := by
        cases w with
        | nil => simp at c1
        | cons a w' => exact ⟨a, w', rfl⟩
      have hw0 : w[0]? = some a := by rw [hw]; rfl
      have hw1 : w.take 1 = [a] := by rw [hw]; rfl
      cases c3 : w.all isF with
      | false => simp_arith [lenS _ _ h1, e1, e2, c1, c2, hF, hne _ (okStr_filter _ hk), filter_not_all, c3]
      | true =>
        have hint : intS w = some (digVal w : Int) := intS_figs (fun c hc => List.all_eq_true.mp c3 c hc) (by rw [hw]; simp) (by omega)
        have e3 : ((digVal w : Int) < 8001) ↔ digVal w ≤ 8000 := by omega
        by_cases c4 : a = 48
        · subst c4
          by_cases c5 : w = [48]
          · have d5 : decide (w = [48]) = true := decide_eq_true c5
            simp_arith [lenS _ _ h1, e1, e2, c1, c2, hF, hne _ (okStr_filter _ hk), filter_not_all, c3, idxS _ _ _ h1, hw0, hw1, d5]
            unfold b__law_mcount_in_1
            simp_arith [d5, hint, e3]
          · simp_arith [lenS _ _ h1, e1, e2, c1, c2, hF, hne _ (okStr_filter _ hk), filter_not_all, c3, idxS _ _ _ h1, hw0, hw1, c5]
            unfold b__law_mcount_in_1
            simp_arith [c5, idxS _ _ _ h1, hw0]
        · have c4' : ¬ [a] = [48] := by simpa using c4
          have c5 : ¬ w = [48] := by rintro h; rw [h] at hw0; cases hw0; exact c4 rfl
          simp_arith [lenS _ _ h1, e1, e2, c1, c2, hF, hne _ (okStr_filter _ hk), filter_not_all, c3, idxS _ _ _ h1, hw0, hw1, c4', c5]
          unfold b__law_mcount_in_1
          simp_arith [idxS _ _ _ h1, hw0, hw1, c4', c5, hint, e3]
    · simp_arith [lenS _ _ h1, e1, e2, c1, c2]
  · simp_arith [lenS _ _ h1, e1, c1]
end K85m
namespace K85m
open Pv Pw K85
/-- the things ahead up to the closing sign, each with a comma behind it -/
def rowR (T : Sg → Option (D × Nat)) (close : Nat) : Nat → Sg → Option (List D × Nat)
  | 0, _ => none
  | n + 1, s => if s.take 1 = [] then none else if s.take 1 = [close] then some ([], 1) else match T s with
    | none => none
    | some (x, m) => if (s.drop m).take 1 = [44] then (rowR T close n (s.drop (m + 1))).map fun p => (x :: p.1, m + 1 + p.2) else none
/-- a word ahead -/
def strR (s : Sg) : Option (D × Nat) := if (s.drop (1 + ((s.drop 1).takeWhile inSg).length)).take 1 = [34] then some (.str ((s.drop 1).takeWhile inSg), 1 + ((s.drop 1).takeWhile inSg).length + 1) else none
/-- the thing ahead -/
def T : Nat → Sg → Option (D × Nat)
  | d, s => if s.take 1 = [78] then some (.non, 1) else if s.take 1 = [34] then strR s else if s.take 1 ∈ [[40], [91]] then (match d with
      | 0 => none
      | d + 1 => (rowR (T d) (if s.take 1 = [40] then 41 else 93) s.length (s.drop 1)).map fun p => (if s.take 1 = [40] then .tup p.1 else .lst p.1, 1 + p.2)) else numR s
theorem take1_cons {s : Sg} {c : Nat} (h : s.take 1 = [c]) : ∃ r, s = c :: r := by
  cases s with
  | nil => simp at h
  | cons a r => simp at h; exact ⟨r, by rw [h]⟩
theorem numR_len {s : Sg} {x : D} {n : Nat} (h : numR s = some (x, n)) : 1 ≤ n ∧ n ≤ s.length := by
  simp only [numR] at h
  split at h
  · cases h
  · rename_i hb
    cases h
    have hf : 1 ≤ (List.takeWhile isF (s.drop (decide (s.take 1 = [45])).toNat)).length := by
      simp only [badF, Bool.or_eq_true, not_or] at hb
      have := hb.1
      simp at this
      exact Nat.pos_of_ne_zero fun e => this.1 (List.eq_nil_of_length_eq_zero e)
    have hle : (decide (s.take 1 = [45])).toNat ≤ s.length := by
      by_cases h : s.take 1 = [45]
      · obtain ⟨r, rfl⟩ := take1_cons h; simp
      · simp [h]
    have := tw_le (p := isF) hle
    omega
theorem strR_len {s : Sg} {x : D} {n : Nat} (h : strR s = some (x, n)) : 1 ≤ n ∧ n ≤ s.length := by
  unfold strR at h
  split at h
  · rename_i hq
    cases h
    have := congrArg List.length hq
    simp only [List.length_take, List.length_drop, List.length_cons, List.length_nil] at this
    omega
  · cases h
theorem rowR_len {T : Sg → Option (D × Nat)} (hT : ∀ s x n, T s = some (x, n) → 1 ≤ n ∧ n ≤ s.length) {cl : Nat} : ∀ {n : Nat} {s : Sg} {p : List D × Nat}, rowR T cl n s = some p → 1 ≤ p.2 ∧ p.2 ≤ s.length
  | 0, s, p, h => by cases h
  | n + 1, s, p, h => by
    unfold rowR at h
    split at h
    · cases h
    · rename_i hne
      have hs : 1 ≤ s.length := by cases s <;> simp at hne ⊢
      split at h
      · cases h; exact ⟨Nat.le_refl _, hs⟩
      · split at h
        · cases h
        · rename_i x m hx
          split at h
          · rename_i hc
            have h1 := hT _ _ _ hx
            cases hr : rowR T cl n (s.drop (m + 1)) with
            | none => rw [hr] at h; cases h
            | some q =>
              rw [hr] at h
              cases h
              have h2 := rowR_len hT hr
              rw [List.length_drop] at h2
              exact ⟨by show 1 ≤ m + 1 + q.2; omega, by show m + 1 + q.2 ≤ s.length; omega⟩
          · cases h
theorem T_len : ∀ (d : Nat) (s : Sg) (x : D) (n : Nat), T d s = some (x, n) → 1 ≤ n ∧ n ≤ s.length
  | d, s, x, n, h => by
    unfold T at h
    split at h
    · rename_i hq
      cases h
      obtain ⟨r, rfl⟩ := take1_cons hq
      exact ⟨Nat.le_refl _, by simp⟩
    · split at h
      · exact strR_len h
      · split at h
        · rename_i hq
          cases d with
          | zero => cases h
          | succ d =>
            simp only [] at h
            cases hr : rowR (T d) (if s.take 1 = [40] then 41 else 93) s.length (s.drop 1) with
            | none => rw [hr] at h; cases h
            | some q =>
              rw [hr] at h
              cases h
              have := rowR_len (T_len d) hr
              rw [List.length_drop] at this
              have hs : 1 ≤ s.length := by cases s <;> simp at hq ⊢
              omega
        · exact numR_len h
mutual
theorem frz_id (S : Store) : ∀ (x : D) (n : Nat), x.pure = true → x.deep < n → D.frz S n x = some x
  | .lst xs, n + 1, hp, hd => by
    have := frzs_id S xs n (by simpa [D.pure] using hp) (by simpa [D.deep] using hd)
    simp only [D.frz, this, Option.map_some]
  | .tup xs, n + 1, hp, hd => by
    have := frzs_id S xs n (by simpa [D.pure] using hp) (by simpa [D.deep] using hd)
    simp only [D.frz, this, Option.map_some]
  | .obj _, n + 1, hp, hd => by simp [D.pure] at hp
  | .non, n + 1, hp, hd => rfl
  | .bl _, n + 1, hp, hd => rfl
  | .int _, n + 1, hp, hd => rfl
  | .str _, n + 1, hp, hd => rfl
  | .scr _, n + 1, hp, hd => rfl
  | .sdc _, n + 1, hp, hd => rfl
  | .edc, n + 1, hp, hd => rfl
theorem frzs_id (S : Store) : ∀ (xs : List D) (n : Nat), D.pures xs = true → D.deeps xs < n → mapO (D.frz S n) xs = some xs
  | [], n, hp, hd => rfl
  | x :: xs, n, hp, hd => by
    simp only [D.pures, Bool.and_eq_true] at hp
    simp only [D.deeps] at hd
    simp only [mapO, frz_id S x n hp.1 (by omega), frzs_id S xs n hp.2 (by omega)]
end
/-- data without live objects, not too deep -/
def Pd (d : Nat) (x : D) : Prop := x.pure = true ∧ x.deep ≤ d
theorem pures_of {xs : List D} {d : Nat} (h : ∀ x ∈ xs, Pd d x) : D.pures xs = true ∧ D.deeps xs ≤ d := by
  induction xs with
  | nil => exact ⟨rfl, Nat.zero_le _⟩
  | cons x xs ih =>
    (have h1 := h x (List.mem_cons_self ..))
    have h2 := ih fun y hy => h y (List.mem_cons_of_mem _ hy)
    simp only [D.pures, D.deeps, h1.1, h2.1, Bool.and_self, true_and]
    have := h1.2
    omega
theorem rowR_Pd {T : Sg → Option (D × Nat)} {d : Nat} (hT : ∀ s x n, T s = some (x, n) → Pd d x) {cl : Nat} : ∀ {n : Nat} {s : Sg} {p : List D × Nat}, rowR T cl n s = some p → ∀ x ∈ p.1, Pd d x
  | 0, s, p, h => by cases h
  | n + 1, s, p, h => by
    unfold rowR at h
    split at h
    · cases h
    · split at h
      · cases h; simp
      · split at h
        · cases h
        · rename_i x m hx
          split at h
          · cases hr : rowR T cl n (s.drop (m + 1)) with
            | none => rw [hr] at h; cases h
            | some q =>
              rw [hr] at h
              cases h
              have h2 := rowR_Pd hT hr
              intro y hy
              (rcases List.mem_cons.mp hy with rfl | hy)
              · exact hT _ _ _ hx
              · exact h2 y hy
          · cases h
theorem T_Pd : ∀ (d : Nat) (s : Sg) (x : D) (n : Nat), T d s = some (x, n) → Pd d x
  | d, s, x, n, h => by
    unfold T at h
    split at h
    · cases h; exact ⟨rfl, Nat.zero_le _⟩
    · split at h
      · unfold strR at h
        split at h
        · cases h; exact ⟨rfl, Nat.zero_le _⟩
        · cases h
      · split at h
        · cases d with
          | zero => cases h
          | succ d =>
            simp only [] at h
            cases hr : rowR (T d) (if s.take 1 = [40] then 41 else 93) s.length (s.drop 1) with
            | none => rw [hr] at h; cases h
            | some q =>
              rw [hr] at h
              have := pures_of (rowR_Pd (T_Pd d) hr)
              cases h
              split
              · exact ⟨by simpa [D.pure] using this.1, by simpa [D.deep] using this.2⟩
              · exact ⟨by simpa [D.pure] using this.1, by simpa [D.deep] using this.2⟩
        · obtain ⟨i, rfl⟩ := numR_pure h
          exact ⟨rfl, Nat.zero_le _⟩
theorem T_nil (d : Nat) : T d [] = none := by
  unfold T
  rfl
end K85m
namespace K85m
open Pv Pw K85
theorem gl7 : pg.gl[7]? = some (.int 8) := rfl
/-- the first '"' ahead, and the signs up to it -/
theorem find_some : ∀ {l : Sg} {k : Nat}, l.findIdx? (· == 34) = some k → k < l.length ∧ ((l.take k).all inSg = decide ((l.drop (l.takeWhile inSg).length).take 1 = [34])) ∧ ((l.take k).all inSg = true → l.takeWhile inSg = l.take k)
  | [], k, h => by simp at h
  | c :: l, k, h => by
    rw [List.findIdx?_cons] at h
    by_cases hc : c = 34
    · subst hc
      simp at h
      subst h
      have : inSg 34 = false := by decide
      simp [List.takeWhile_cons, this]
    · have hc' : (c == 34) = false := by simpa using hc
      rw [hc'] at h
      simp only [Bool.false_eq_true, if_false, Option.map_eq_some_iff] at h
      obtain ⟨j, hj, rfl⟩ := h
      obtain ⟨h1, h2, h3⟩ := find_some hj
      refine ⟨by simp only [List.length_cons]; omega, ?_, ?_⟩
      · cases hs : inSg c with
        | true => simp [List.takeWhile_cons, hs, h2]
        | false => simp [List.takeWhile_cons, hs, hc]
      · intro ha
        simp only [List.take_succ_cons, List.all_cons, Bool.and_eq_true] at ha
        simp [List.takeWhile_cons, ha.1, h3 ha.2]
theorem find_none : ∀ {l : Sg}, l.findIdx? (· == 34) = none → ¬ (l.drop (l.takeWhile inSg).length).take 1 = [34] := by
  intro l h e
  rw [List.findIdx?_eq_none_iff] at h
  obtain ⟨r, hr⟩ := take1_cons e
  have : 34 ∈ l := List.mem_of_mem_drop (hr ▸ List.mem_cons_self ..)
  have := h 34 this
  simp at this
theorem strR_eq (w : Sg) (i : Nat) (hi : i < w.length) : strR (w.drop i) = match (w.drop (i + 1)).findIdx? (· == 34) with
    | none => none
    | some k => if ((w.drop (i + 1)).take k).all inSg then some (.str ((w.drop (i + 1)).take k), k + 2) else none := by
  unfold strR
  have e1 : (w.drop i).drop 1 = w.drop (i + 1) := by rw [List.drop_drop]
  rw [e1, show (w.drop i).drop (1 + (List.takeWhile inSg (w.drop (i + 1))).length) = (w.drop (i + 1)).drop (List.takeWhile inSg (w.drop (i + 1))).length by rw [List.drop_drop, List.drop_drop]; congr 1; omega]
  cases h : (w.drop (i + 1)).findIdx? (· == 34) with
  | none => rw [if_neg (find_none h)]
  | some k =>
    obtain ⟨h1, h2, h3⟩ := find_some h
    cases ha : ((w.drop (i + 1)).take k).all inSg with
    | false =>
      rw [ha] at h2
      rw [if_neg (of_decide_eq_false h2.symm)]
      simp [ha]
    | true =>
      rw [ha] at h2
      rw [if_pos (of_decide_eq_true h2.symm), h3 ha, List.length_take, Nat.min_eq_left (Nat.le_of_lt h1)]
      simp only [ha, if_true]
      rw [show 1 + k + 1 = k + 2 by omega]
theorem call_frz {P : Pg} {k f : Nat} {ds : List D} {S S' : Store} {d d' : D} (fn : Fn) (env : Env) (hfn : P.fns[f]? = some fn) (hl : (fn.lv || !D.pures ds) = false) (ha : ds.length = fn.ar) (he : ds.map some ++ List.replicate (fn.sl - fn.ar) none = env)
    (h : (evSs (P.cf (callF P k)) fn.bd env []).bind endFl = .ok d S') (hd : frzD S' d = some d') : callF P (k + 1) f ds S = .ok d' S := by
  rw [call_pure fn hfn hl, runB_eq _ _ _ _ ha, he, h]
  show Ro.opt (frzD S' d) S = _
  rw [hd]; rfl
def ThingOk (k d : Nat) : Prop := ∀ (w : Sg) (i : Nat) (S : Store), w.length ≤ 8000 → okStr w = true → i ≤ w.length → callF pg k 8 [.str w, .int (i : Int), .int (d : Int)] S = .ok (resT i (T d (w.drop i))) S
theorem take1_of_drop {w : Sg} {i : Nat} (h : i < w.length) : ∃ c, (w.drop i).take 1 = [c] ∧ w[i]? = some c ∧ w.drop i = c :: w.drop (i + 1) := by
  refine ⟨w[i], ?_, List.getElem?_eq_getElem h, List.drop_eq_getElem_cons h⟩
  rw [List.drop_eq_getElem_cons h]; rfl
abbrev rowE (w : Sg) (at_ d cl i : Nat) (v : Option D) : Env := [some (.str w), some (.int (at_ : Int)), some (.int ((d + 1 : Nat) : Int)), some (.str [cl]), some (.obj 0), some (.int (i : Int)), v]
abbrev rowW (k : Nat) (fuel : Nat) (e : Env) (S : Store) : Ro Fl := whlLoop (fun e S => evE (pg.cf (callF pg k)) e true b_row_at_1c S) (fun e S => evSs (pg.cf (callF pg k)) b_row_at_1a_0 e S) fuel e S
/-- where the loop over parts comes to -/
def rowQ (w : Sg) (at_ d cl i : Nat) (acc : List D) (o : Option (List D × Nat)) (r : Ro Fl) : Prop := match o with
  | none => ∃ S', r = .ok (.rt .non) S'
  | some p => ∃ v, r = .ok (.nx (rowE w at_ d cl (i + p.2 - 1) v)) [.lst (acc ++ p.1)]
theorem row_loop (k d : Nat) (hT : ThingOk k d) (w : Sg) (at_ : Nat) (cl : Nat) (hz : w.length ≤ 8000) (hk : okStr w = true) : ∀ (n i : Nat) (acc : List D) (v : Option D) (fuel : Nat), w.length - i < n → i ≤ w.length → acc.length ≤ i → n < fuel →
    rowQ w at_ d cl i acc (rowR (T d) cl n (w.drop i)) (rowW k fuel (rowE w at_ d cl i v) [.lst acc])
  | 0, i, acc, v, fuel, hn, hi, ha, hf => by omega
  | n + 1, i, acc, v, 0, hn, hi, ha, hf => by omega
  | n + 1, i, acc, v, fuel + 1, hn, hi, ha, hf => by
    have h1 : w.length ≤ SZ := Nat.le_trans hz (by decide)
    have hdd : ((d + 1 : Nat) : Int) - 1 = (d : Int) := by omega
    have hcall := fun S => hT w i S hz hk hi
    have hc0 : evE (pg.cf (callF pg k)) (rowE w at_ d cl i v) true b_row_at_1c [.lst acc] = .ok (.bl (!decide ((w.drop i).take 1 = [cl]))) [.lst acc] := by
      unfold b_row_at_1c
      simp_arith [slcS _ _ _ _ h1]
    have hb0 : ∀ o, T d (w.drop i) = o → evSs (pg.cf (callF pg k)) b_row_at_1a_0 (rowE w at_ d cl i v) [.lst acc] = evSs (pg.cf (callF pg k)) b_row_at_1a_1 (rowE w at_ d cl i (some (resT i o))) [.lst acc] := by
      intro o ho
      rw [ho] at hcall
      unfold b_row_at_1a_0
      simp_arith [hdd, hcall]
    unfold rowR
    by_cases hil : i = w.length
    · -- at the end
      have hd0 : w.drop i = [] := by rw [hil]; exact List.drop_length
      rw [hd0] at hc0 hb0 ⊢
      simp only [List.take_nil, if_true, reduceCtorEq, decide_false, Bool.not_false] at hc0 ⊢
      refine ⟨[.lst acc], whl_ret hc0 ((hb0 _ (T_nil d)).trans ?_)⟩
      unfold b_row_at_1a_1
      simp_arith [resT]
    · obtain ⟨c, hc1, hc2, hc3⟩ := take1_of_drop (Nat.lt_of_le_of_ne hi hil)
      rw [if_neg (by rw [hc1]; simp)]
      by_cases hcl : (w.drop i).take 1 = [cl]
      · rw [if_pos hcl]
        rw [hcl] at hc0
        simp only [decide_true, Bool.not_true] at hc0
        refine ⟨v, (whl_exit hc0).trans ?_⟩
        simp
      · rw [if_neg hcl]
        simp only [hcl, decide_false, Bool.not_false] at hc0
        cases hTT : T d (w.drop i) with
        | none =>
          refine ⟨[.lst acc], whl_ret hc0 ((hb0 _ hTT).trans ?_)⟩
          unfold b_row_at_1a_1
          simp_arith [resT]
        | some q =>
          obtain ⟨x, m⟩ := q
          have hm := T_len d _ _ _ hTT
          rw [List.length_drop] at hm
          simp only []
          have hdm : (w.drop i).drop m = w.drop (i + m) := by rw [List.drop_drop]
          have hdm1 : (w.drop i).drop (m + 1) = w.drop (i + m + 1) := by rw [List.drop_drop]; congr 1
          rw [hdm, hdm1]
          by_cases h44 : (w.drop (i + m)).take 1 = [44]
          · rw [if_pos h44]
            have hlt : i + m < w.length := by
              have := congrArg List.length h44
              simp only [List.length_take, List.length_drop, List.length_cons, List.length_nil] at this
              omega
            have ih := row_loop k d hT w at_ cl hz hk n (i + m + 1) (acc ++ [x]) (some (.tup [x, .int ((i + m : Nat) : Int)])) fuel (by omega) (by omega) (by simp; omega) (by omega)
            have hal : acc.length < SZ := Nat.lt_of_le_of_lt (show acc.length ≤ 8000 by omega) (by decide)
            have hb : evSs (pg.cf (callF pg k)) b_row_at_1a_0 (rowE w at_ d cl i v) [.lst acc] = .ok (.nx (rowE w at_ d cl (i + m + 1) (some (.tup [x, .int ((i + m : Nat) : Int)])))) [.lst (acc ++ [x])] := by
              refine (hb0 _ hTT).trans ?_
              unfold b_row_at_1a_1
              simp_arith [resT, slcS _ _ _ _ h1, h44]
              unfold b_row_at_1a_2
              simp_arith [meT, Me.ofL, live, Option.isSome_some, meD, hal, meR]
              unfold b_row_at_1a_3
              simp_arith []
            rw [rowW, whl_next hc0 hb]
            cases hr : rowR (T d) cl n (w.drop (i + m + 1)) with
            | none =>
              rw [hr] at ih
              exact ih
            | some p =>
              rw [hr] at ih
              obtain ⟨v', e⟩ := ih
              refine ⟨v', e.trans ?_⟩
              (simp only [List.append_assoc, List.cons_append, List.nil_append])
              rw [show i + m + 1 + p.2 - 1 = i + (m + 1 + p.2) - 1 by omega]
          · rw [if_neg h44]
            refine ⟨[.lst acc], whl_ret hc0 ((hb0 _ hTT).trans ?_)⟩
            unfold b_row_at_1a_1
            simp_arith [resT, slcS _ _ _ _ h1, h44]
/-- what comes of a row at an open sign -/
theorem call_row (k d : Nat) (hT : ThingOk k d) (w : Sg) (i : Nat) (S : Store) (hz : w.length ≤ 8000) (hk : okStr w = true) (hi : i ≤ w.length) (hd : d ≤ 50) (hs : (w.drop i).take 1 ∈ [[40], [91]]) :
    callF pg (k + 1) 7 [.str w, .int (i : Int), .int ((d + 1 : Nat) : Int)] S = .ok (resT i (T (d + 1) (w.drop i))) S := by
  have h1 : w.length ≤ SZ := Nat.le_trans hz (by decide)
  obtain ⟨c, hc⟩ : ∃ c, (w.drop i).take 1 = [c] ∧ (c = 40 ∨ c = 91) := by
    rcases List.mem_cons.mp hs with h | h
    · exact ⟨40, h, .inl rfl⟩
    · exact ⟨91, by simpa using h, .inr rfl⟩
  have hil : i < w.length := by
    have := congrArg List.length hc.1
    simp only [List.length_take, List.length_drop, List.length_cons, List.length_nil] at this
    omega
  obtain ⟨c', hc1, hc2, hc3⟩ := take1_of_drop hil
  rw [hc.1] at hc1
  obtain rfl : c = c' := by simpa using hc1
  have hrun : evSs (pg.cf (callF pg k)) b_row_at_0 [some (.str w), some (.int (i : Int)), some (.int ((d + 1 : Nat) : Int)), none, none, none, none] [] = evSs (pg.cf (callF pg k)) b_row_at_1 (rowE w i d (if c = 40 then 41 else 93) (i + 1) none) [.lst []] := by
    unfold b_row_at_0
    rcases hc.2 with rfl | rfl
    · simp_arith [idxS _ _ _ h1, hc2]
    · have e9 : (([91] : List Nat) = [40]) = False := by simp
      have e8 : ((91 : Nat) = 40) = False := by simp
      simp_arith [idxS _ _ _ h1, hc2, e9, e8]
  have hl := row_loop k d hT w i (if c = 40 then 41 else 93) hz hk ((w.drop i).length) (i + 1) [] none FUEL (by rw [List.length_drop]; omega) hil (Nat.zero_le _) (Nat.lt_of_le_of_lt (show (w.drop i).length ≤ 8000 by rw [List.length_drop]; omega) (by decide))
  have hTe : T (d + 1) (w.drop i) = (rowR (T d) (if c = 40 then 41 else 93) (w.drop i).length (w.drop (i + 1))).map fun p => (if c = 40 then .tup p.1 else .lst p.1, 1 + p.2) := by
    have n1 : ¬ (w.drop i).take 1 = [78] := by rw [hc.1]; rcases hc.2 with rfl | rfl <;> decide
    have n2 : ¬ (w.drop i).take 1 = [34] := by rw [hc.1]; rcases hc.2 with rfl | rfl <;> decide
    rw [T, if_neg n1, if_neg n2, if_pos hs]
    rw [hc.1, show (w.drop i).drop 1 = w.drop (i + 1) by rw [List.drop_drop]]
    have e : ([c] = [40]) = (c = 40) := by simp
    simp only [e]
  rw [hTe]
  cases hr : rowR (T d) (if c = 40 then 41 else 93) (w.drop i).length (w.drop (i + 1)) with
  | none =>
    rw [hr] at hl
    obtain ⟨S', e⟩ := hl
    refine call_ok ⟨3, 7, false, b_row_at_0⟩ _ rfl rfl rfl rfl ?_ rfl (S' := S')
    refine (congrArg (fun r => Ro.bind r endFl) hrun).trans ?_
    unfold b_row_at_1
    rw [evSs_cons, evS_whl]
    rw [show whlLoop _ _ FUEL (rowE w i d _ (i + 1) none) [.lst []] = _ from e]
    simp_arith [resT]
  | some p =>
    rw [hr] at hl
    obtain ⟨v, e⟩ := hl
    have hP := rowR_Pd (T_Pd d) hr
    have hPs := pures_of hP
    have hrl := rowR_len (T_len d) hr
    have key : (evSs (pg.cf (callF pg k)) b_row_at_0 [some (.str w), some (.int (i : Int)), some (.int ((d + 1 : Nat) : Int)), none, none, none, none] []).bind endFl = .ok (.tup [if c = 40 then .tup p.1 else .obj 0, .int ((i + (1 + p.2) : Nat) : Int)]) [.lst p.1] := by
      refine (congrArg (fun r => Ro.bind r endFl) hrun).trans ?_
      unfold b_row_at_1
      rw [evSs_cons, evS_whl]
      rw [show whlLoop _ _ FUEL (rowE w i d _ (i + 1) none) [.lst []] = _ from e]
      rw [Ro.bind_ok, flow_nx, List.nil_append]
      unfold b_row_at_2
      have ea : i + 1 + p.2 - 1 + 1 = i + (1 + p.2) := by omega
      rcases hc.2 with rfl | rfl
      · simp_arith [biD, D.items, ea]
      · simp_arith [ea]
        simp
    refine call_frz ⟨3, 7, false, b_row_at_0⟩ _ rfl rfl rfl rfl key ?_
    have hlen := hd
    rcases hc.2 with rfl | rfl
    · unfold frzD
      rw [if_pos (by simp [D.pure, D.pures, hPs.1])]
      simp [resT]
    · unfold frzD
      rw [if_neg (by simp [D.pure, D.pures])]
      have hf := frzs_id [Cell.lst p.1] p.1 58 hPs.1 (by omega)
      simp [D.frz, mapO, hf, resT]
theorem slc_in (w : Sg) (i k : Nat) (hk : k ≤ (w.drop (i + 1)).length) (hi : i < w.length) : cut w (some ((i + 1 : Nat) : Int)) (some ((i + 1 + k : Nat) : Int)) = (w.drop (i + 1)).take k := by
  rw [List.length_drop] at hk
  rw [cut_nn _ _ _ (by omega), Nat.add_sub_cancel_left]
theorem thing_str (k d : Nat) (w : Sg) (i : Nat) (hz : w.length ≤ 8000) (hk : okStr w = true) (hi : i < w.length) :
    evSs (pg.cf (callF pg (k + 1))) b_thing_at_2a_0 [some (.str w), some (.int (i : Int)), some (.int (d : Int)), some (.str [34]), none, none] [] = .ok (.rt (resT i (strR (w.drop i)))) [] := by
  have h1 : w.length ≤ SZ := Nat.le_trans hz (by decide)
  rw [strR_eq w i hi]
  have hm : meD .find [] (.str w) [.str [34], .int ((i + 1 : Nat) : Int)] = some (.int (findC 34 w (i + 1)), []) := by
    show (if w.length ≤ SZ ∧ 0 ≤ ((i + 1 : Nat) : Int) ∧ ((i + 1 : Nat) : Int) ≤ w.length then some (D.int (findC 34 w ((i + 1 : Nat) : Int).toNat), ([] : Store)) else none) = _
    rw [if_pos ⟨h1, by omega, by omega⟩]; rfl
  unfold b_thing_at_2a_0
  simp_arith [meT, Me.ofL, D.isS, hm, meR]
  unfold findC
  cases hf : (w.drop (i + 1)).findIdx? (· == 34) with
  | none =>
    have hl : ¬ (0 : Int) < -1 := by decide
    unfold b_thing_at_2a_1
    simp_arith [hl]
    unfold b_thing_at_2a_2
    simp_arith [resT]
  | some j =>
    obtain ⟨j1, j2, j3⟩ := find_some hf
    have hc := call_text k ((w.drop (i + 1)).take j) [] (by rw [List.length_take, List.length_drop]; omega) (okStr_take _ (okStr_drop _ hk))
    have hl : (0 : Int) < ((i + 1 + j : Nat) : Int) := by omega
    unfold b_thing_at_2a_1
    simp_arith [hl, slcS _ _ _ _ h1, slc_in w i j (Nat.le_of_lt j1) hi, gl2, gl5, hc]
    cases ha : ((w.drop (i + 1)).take j).all inSg with
    | false =>
      unfold b_thing_at_2a_2
      simp_arith [resT]
    | true =>
      unfold b_thing_at_2a_2
      have e : i + 1 + j + 1 = i + (j + 2) := by omega
      simp_arith [resT, slcS _ _ _ _ h1, slc_in w i j (Nat.le_of_lt j1) hi, e]
theorem thing_ok : ∀ (d : Nat), d ≤ 50 → ∀ k, 2 * d + 2 ≤ k → ThingOk k d
  | d, hd, 0, hk => by omega
  | d, hd, 1, hk => by omega
  | d, hd, k + 2, hk => fun w i S hz hok hi => by
    have h1 : w.length ≤ SZ := Nat.le_trans hz (by decide)
    have hp : (resT i (T d (w.drop i))).pure = true := resT_pure _ _ fun x n h => (T_Pd d _ _ _ h).1
    refine call_ok ⟨3, 6, false, b_thing_at_0⟩ _ rfl rfl rfl rfl ?_ hp (S' := [])
    unfold b_thing_at_0
    simp_arith [slcS _ _ _ _ h1]
    unfold b_thing_at_1
    unfold T
    by_cases c1 : (w.drop i).take 1 = [78]
    · simp_arith [c1, resT]
    · by_cases c2 : (w.drop i).take 1 = [34]
      · have hil : i < w.length := by
          have := congrArg List.length c2
          simp only [List.length_take, List.length_drop, List.length_cons, List.length_nil] at this
          omega
        have e9 : (([34] : List Nat) = [78]) = False := by simp
        rw [if_neg c1, if_pos c2]
        rw [c2]
        simp_arith [e9]
        unfold b_thing_at_2
        simp_arith []
        rw [thing_str k d w i hz hok hil]
        simp_arith []
      · rw [if_neg c1, if_neg c2]
        simp_arith [c1]
        unfold b_thing_at_2
        simp_arith [c2]
        unfold b_thing_at_3
        have hin : ∀ S, cmD .in_ S (.str ((w.drop i).take 1)) (.tup [.str [40], .str [91]]) = some (decide ((w.drop i).take 1 ∈ [[40], [91]])) := fun S => inT_strs S ((w.drop i).take 1) [[40], [91]]
        by_cases c3 : (w.drop i).take 1 ∈ [[40], [91]]
        · rw [if_pos c3]
          cases d with
          | zero =>
            have hl : ¬ (0 : Int) < ((0 : Nat) : Int) := by decide
            simp_arith [hin, c3, hl, resT]
          | succ d =>
            have hl : (0 : Int) < ((d + 1 : Nat) : Int) := by omega
            have hr := call_row k d (thing_ok d (by omega) k (by omega)) w i [] hz hok hi (by omega) c3
            simp_arith [hin, c3, hl, hr]
            have hTe : T (d + 1) (w.drop i) = (rowR (T d) (if (w.drop i).take 1 = [40] then 41 else 93) (w.drop i).length ((w.drop i).drop 1)).map fun p => (if (w.drop i).take 1 = [40] then .tup p.1 else .lst p.1, 1 + p.2) := by
              rw [T, if_neg c1, if_neg c2, if_pos c3]
            rw [hTe]
        · rw [if_neg c3]
          have hn := call_number k w i [] hz hi
          simp_arith [hin, c3]
          unfold b_thing_at_4
          simp_arith [hn]
end K85m
namespace K85m
open Pv Pw K85
theorem num_cut (w : Sg) (i : Nat) (neg : Bool) (hi : i + neg.toNat ≤ w.length) (hn : neg = decide ((w.drop i).take 1 = [45])) :
    i + neg.toNat + (List.takeWhile isF (w.drop (i + neg.toNat))).length ≤ w.length ∧
    cut w (some ((i + neg.toNat : Nat) : Int)) (some ((i + neg.toNat + (List.takeWhile isF (w.drop (i + neg.toNat))).length : Nat) : Int)) = List.takeWhile isF (w.drop (i + neg.toNat)) ∧
    cut w (some (i : Int)) (some ((i + neg.toNat + (List.takeWhile isF (w.drop (i + neg.toNat))).length : Nat) : Int)) = (if neg then [45] else []) ++ List.takeWhile isF (w.drop (i + neg.toNat)) := by
  have hle := tw_le (p := isF) (w := w) hi
  have htk : cut w (some ((i + neg.toNat : Nat) : Int)) (some ((i + neg.toNat + (List.takeWhile isF (w.drop (i + neg.toNat))).length : Nat) : Int)) = List.takeWhile isF (w.drop (i + neg.toNat)) := by
    rw [cut_nn _ _ _ hle, Nat.add_sub_cancel_left]
    conv => lhs; arg 2; rw [← List.takeWhile_append_dropWhile (p := isF) (l := w.drop (i + neg.toNat))]
    rw [List.take_left]
  refine ⟨hle, htk, ?_⟩
  rw [cut_nn _ _ _ hle]
  cases neg with
  | false =>
    simp only [Bool.toNat_false, Nat.add_zero, Bool.false_eq_true, if_false, List.nil_append] at htk hle ⊢
    rw [cut_nn _ _ _ hle] at htk
    exact htk
  | true =>
    have h45 : (w.drop i).take 1 = [45] := by simpa using hn.symm
    obtain ⟨r, hr⟩ := take1_cons h45
    simp only [Bool.toNat_true, if_true] at htk hle ⊢
    rw [show w.drop (i + 1) = r by rw [← List.drop_drop, hr]; rfl] at htk hle ⊢
    rw [cut_nn _ _ _ hle, Nat.add_sub_cancel_left, ← List.drop_drop, hr] at htk
    rw [hr, show i + 1 + (List.takeWhile isF r).length - i = (List.takeWhile isF r).length + 1 by omega, List.take_succ_cons]
    simp only [List.drop_one, List.tail_cons] at htk
    rw [htk]; rfl
theorem mnum_tail (cf : Cf) (w : Sg) (i d : Nat) (sg : Sg) (neg : Bool) (hz : w.length ≤ 8000) (hi : i + neg.toNat ≤ w.length) (hn : neg = decide ((w.drop i).take 1 = [45])) :
    evSs cf b__law_mflat_read_5 [some (.str w), some (.int (i : Int)), some (.int (d : Int)), some (.str sg), some (.int ((i + neg.toNat : Nat) : Int)), none, none, none, none, none] [] = .ok (.rt (resL i (numR (w.drop i)))) [] := by
  have h1 : w.length ≤ SZ := Nat.le_trans hz (by decide)
  unfold b__law_mflat_read_5
  simp_arith []
  unfold b__law_mflat_read_6 b__law_mflat_read_6c b__law_mflat_read_6a_0
  rw [evSs_cons, evS_whl]
  rw [whl_scan w FIG (fun j => [some (.str w), some (.int (i : Int)), some (.int (d : Int)), some (.str sg), some (.int ((i + neg.toNat : Nat) : Int)), some (.int (j : Int)), none, none, none, none]) (i + neg.toNat) hi hz]
  rotate_left
  · intro j hj
    subst hj
    simp_arith [lenS _ _ h1, Int.lt_irrefl]
  · intro j x hj hx
    have : (j : Int) < (w.length : Int) := by omega
    simp_arith [lenS _ _ h1, this, idxS _ _ _ h1, hx]
  · intro j hj
    simp_arith []
  rw [Ro.bind_ok, flow_nx]
  unfold b__law_mflat_read_7
  have hdd : w.drop (i + neg.toNat) = (w.drop i).drop neg.toNat := by rw [List.drop_drop]
  obtain ⟨hle, htk, hcut⟩ := num_cut w i neg hi hn
  have hall := tw_all (p := isF) (l := w.drop (i + neg.toNat))
  rw [show (fun x => decide (x ∈ FIG)) = isF from rfl]
  unfold numR
  simp only [← hn, ← hdd]
  generalize hf : List.takeWhile isF (w.drop (i + neg.toNat)) = f at htk hall hcut hle
  have hfz : f.length ≤ SZ := Nat.le_trans (show f.length ≤ 8000 by omega) (by decide)
  simp_arith [slcS _ _ _ _ h1, htk]
  have e1 : ((0 : Int) < (f.length : Int)) ↔ 1 ≤ f.length := by omega
  have e2 : ((f.length : Int) < 10) ↔ f.length ≤ 9 := by omega
  have e3 : ((i : Int) < ((i + neg.toNat : Nat) : Int)) ↔ neg = true := by cases neg <;> simp <;> omega
  have e4 : ((1 : Int) < (f.length : Int)) ↔ 1 < f.length := by omega
  have hcond : evE cf [some (.str w), some (.int (i : Int)), some (.int (d : Int)), some (.str sg), some (.int ((i + neg.toNat : Nat) : Int)), some (.int ((i + neg.toNat + f.length : Nat) : Int)), some (.str f), none, none, none] true
      (.or (.not (.chn .lt .lt (.lit (.int 0)) (.bi .len (.var 6)) (.lit (.int 10)))) (.and (.cmp .eq (.idx (.var 6) (.lit (.int 0))) (.lit (.str [48]))) (.or (.cmp .gt (.bi .len (.var 6)) (.lit (.int 1))) (.cmp .gt (.var 4) (.var 1))))) [] = .ok (.bl (badF f neg)) [] := by
    unfold badF
    by_cases c1 : 1 ≤ f.length
    · by_cases c2 : f.length ≤ 9
      · obtain ⟨a, f', hw⟩ : ∃ a w', f = a :: w' := by
          cases f with
          | nil => simp at c1
          | cons a w' => exact ⟨a, w', rfl⟩
        have hw0 : f[0]? = some a := by rw [hw]; rfl
        have hw1 : f.take 1 = [a] := by rw [hw]; rfl
        by_cases g1 : a = 48
        · subst g1
          have e5 : decide (1 < f.length) = !decide (f = [48]) := by
            rw [hw]; cases f' <;> simp
          simp_arith [lenS _ _ hfz, e1, e2, c1, c2, idxS _ _ _ hfz, hw0, hw1, e4, e3]
          cases h6 : decide (f = [48]) with
          | true =>
            rw [h6] at e5
            have e6 : ¬ 1 < f.length := by simpa using e5
            simp_arith [e6]
            simp
          | false =>
            rw [h6] at e5
            have e6 : 1 < f.length := by simpa using e5
            simp_arith [e6]
        · have g2 : ¬ [a] = [48] := by simpa using g1
          simp_arith [lenS _ _ hfz, e1, e2, c1, c2, idxS _ _ _ hfz, hw0, hw1, g2]
      · simp_arith [lenS _ _ hfz, e1, e2, c1, c2]
    · simp_arith [lenS _ _ hfz, e1, c1]
  unfold b__law_mflat_read_8
  rw [evSs_cons, evS_ife, hcond]
  cases hb : badF f neg with
  | true => simp_arith []; rfl
  | false =>
    simp_arith []
    have hb2 := hb
    simp only [badF, Bool.or_eq_false_iff, Bool.not_eq_false', Bool.and_eq_true, decide_eq_true_eq] at hb2
    have hne : f ≠ [] := by rintro rfl; simp at hb2
    have hint : intS ((if neg then [45] else []) ++ f) = some (if neg then -(digVal f : Int) else digVal f) := by
      cases neg with
      | true => exact intS_neg hall hne hb2.1.2
      | false => exact intS_figs hall hne hb2.1.2
    unfold b__law_mflat_read_9
    simp_arith [slcS _ _ _ _ h1, hcut, hint]
    simp only [resL, Nat.add_assoc]
theorem numR_open {s : Sg} (h : s.take 1 ∈ [[40], [91]]) : numR s = none := by
  have : ∃ c, s.take 1 = [c] ∧ (c = 40 ∨ c = 91) := by
    rcases List.mem_cons.mp h with h | h
    · exact ⟨40, h, .inl rfl⟩
    · exact ⟨91, by simpa using h, .inr rfl⟩
  obtain ⟨c, h1, h2⟩ := this
  obtain ⟨r, rfl⟩ := take1_cons h1
  have hf : isF c = false := by rcases h2 with rfl | rfl <;> decide
  have h45 : ¬ c = 45 := by rcases h2 with rfl | rfl <;> decide
  unfold numR
  simp [h45, hf, badF]
def ReadOk (k d : Nat) : Prop := ∀ (w : Sg) (i : Nat) (S : Store), w.length ≤ 8000 → okStr w = true → i ≤ w.length → callF pg k 30 [.str w, .int (i : Int), .int (d : Int)] S = .ok (resL i (T d (w.drop i))) S
abbrev rdE (w : Sg) (at_ d : Nat) (sg : Sg) (acc : List D) (i : Nat) (v : Option D) : Env := [some (.str w), some (.int (at_ : Int)), some (.int ((d + 1 : Nat) : Int)), some (.str sg), none, none, none, some (.lst acc), some (.int (i : Int)), v]
abbrev rdW (k : Nat) (fuel : Nat) (e : Env) (S : Store) : Ro Fl := whlLoop (fun e S => evE (pg.cf (callF pg k)) e true b__law_mflat_read_3a_1c S) (fun e S => evSs (pg.cf (callF pg k)) b__law_mflat_read_3a_1a_0 e S) fuel e S
/-- where the loop over parts comes to -/
def rdQ (w : Sg) (at_ d : Nat) (sg : Sg) (i : Nat) (acc : List D) (o : Option (List D × Nat)) (r : Ro Fl) : Prop := match o with
  | none => r = .ok (.rt .non) [] ∨ ∃ acc' v, r = .ok (.nx (rdE w at_ d sg acc' w.length v)) []
  | some p => i + p.2 - 1 < w.length ∧ ∃ v, r = .ok (.nx (rdE w at_ d sg (acc ++ p.1) (i + p.2 - 1) v)) []
theorem rd_loop (k d : Nat) (hT : ReadOk k d) (w : Sg) (at_ c0 : Nat) (hc0 : c0 = 40 ∨ c0 = 91) (hz : w.length ≤ 8000) (hk : okStr w = true) : ∀ (n i : Nat) (acc : List D) (v : Option D) (fuel : Nat), w.length - i < n → i ≤ w.length → acc.length ≤ i → n < fuel →
    rdQ w at_ d [c0] i acc (rowR (T d) (if c0 = 40 then 41 else 93) n (w.drop i)) (rdW k fuel (rdE w at_ d [c0] acc i v) [])
  | 0, i, acc, v, fuel, hn, hi, ha, hf => by omega
  | n + 1, i, acc, v, 0, hn, hi, ha, hf => by omega
  | n + 1, i, acc, v, fuel + 1, hn, hi, ha, hf => by
    have h1 : w.length ≤ SZ := Nat.le_trans hz (by decide)
    have hdd : ((d + 1 : Nat) : Int) - 1 = (d : Int) := by omega
    have hcall := fun S => hT w i S hz hk hi
    unfold rowR
    by_cases hil : i = w.length
    · -- at the end
      have hd0 : w.drop i = [] := by rw [hil]; exact List.drop_length
      rw [hd0]
      simp only [List.take_nil, if_true]
      subst hil
      refine .inr ⟨acc, v, whl_exit ?_⟩
      unfold b__law_mflat_read_3a_1c
      simp_arith [lenS _ _ h1, Int.lt_irrefl]
    · have hlt : i < w.length := Nat.lt_of_le_of_ne hi hil
      have hlt' : (i : Int) < (w.length : Int) := by omega
      obtain ⟨c, hc1, hc2, hc3⟩ := take1_of_drop hlt
      rw [if_neg (by rw [hc1]; simp)]
      have hcc : evE (pg.cf (callF pg k)) (rdE w at_ d [c0] acc i v) true b__law_mflat_read_3a_1c [] = .ok (.bl (!decide ([c] = [if c0 = 40 then 41 else 93]))) [] := by
        unfold b__law_mflat_read_3a_1c
        rcases hc0 with rfl | rfl
        · have e9 : (([40] : List Nat) = [91]) = False := by simp
          simp_arith [lenS _ _ h1, hlt', idxS _ _ _ h1, hc2, e9, idxS [] [41, 93] _ (by decide)]
        · have e8 : ((91 : Nat) = 40) = False := by simp
          simp_arith [lenS _ _ h1, hlt', idxS _ _ _ h1, hc2, e8, idxS [] [41, 93] _ (by decide)]
      have hb0 : ∀ o, T d (w.drop i) = o → evSs (pg.cf (callF pg k)) b__law_mflat_read_3a_1a_0 (rdE w at_ d [c0] acc i v) [] = evSs (pg.cf (callF pg k)) b__law_mflat_read_3a_1a_1 (rdE w at_ d [c0] acc i (some (resL i o))) [] := by
        intro o ho
        rw [ho] at hcall
        unfold b__law_mflat_read_3a_1a_0
        simp_arith [hdd, hcall]
      by_cases hcl : [c] = [if c0 = 40 then 41 else 93]
      · rw [if_pos (hc1.trans hcl)]
        simp only [hcl, decide_true, Bool.not_true] at hcc
        refine ⟨by simpa using hlt, v, (whl_exit hcc).trans ?_⟩
        simp
      · rw [hc1, if_neg hcl]
        simp only [hcl, decide_false, Bool.not_false] at hcc
        cases hTT : T d (w.drop i) with
        | none =>
          refine .inl (whl_ret hcc ((hb0 _ hTT).trans ?_))
          unfold b__law_mflat_read_3a_1a_1
          simp_arith [resL]
        | some q =>
          obtain ⟨x, m⟩ := q
          have hm := T_len d _ _ _ hTT
          rw [List.length_drop] at hm
          simp only []
          have hdm : (w.drop i).drop m = w.drop (i + m) := by rw [List.drop_drop]
          have hdm1 : (w.drop i).drop (m + 1) = w.drop (i + m + 1) := by rw [List.drop_drop]; congr 1
          rw [hdm, hdm1]
          by_cases h44 : (w.drop (i + m)).take 1 = [44]
          · rw [if_pos h44]
            have hlt : i + m < w.length := by
              have := congrArg List.length h44
              simp only [List.length_take, List.length_drop, List.length_cons, List.length_nil] at this
              omega
            have ih := rd_loop k d hT w at_ c0 hc0 hz hk n (i + m + 1) (acc ++ [x]) (some (.lst [x, .int ((i + m : Nat) : Int)])) fuel (by omega) (by omega) (by simp; omega) (by omega)
            have hal : acc.length + 1 ≤ SZ := Nat.le_trans (show acc.length + 1 ≤ 8001 by omega) (by decide)
            have hb : evSs (pg.cf (callF pg k)) b__law_mflat_read_3a_1a_0 (rdE w at_ d [c0] acc i v) [] = .ok (.nx (rdE w at_ d [c0] (acc ++ [x]) (i + m + 1) (some (.lst [x, .int ((i + m : Nat) : Int)])))) [] := by
              refine (hb0 _ hTT).trans ?_
              unfold b__law_mflat_read_3a_1a_1
              simp_arith [resL, slcS _ _ _ _ h1, h44]
              unfold b__law_mflat_read_3a_1a_2
              simp_arith [opAl _ acc [x] hal]
            rw [rdW, whl_next hcc hb]
            cases hr : rowR (T d) (if c0 = 40 then 41 else 93) n (w.drop (i + m + 1)) with
            | none =>
              rw [hr] at ih
              exact ih
            | some p =>
              rw [hr] at ih
              obtain ⟨hlt2, v', e⟩ := ih
              refine ⟨by show i + (m + 1 + p.2) - 1 < _; omega, v', e.trans ?_⟩
              (simp only [List.append_assoc, List.cons_append, List.nil_append])
              rw [show i + m + 1 + p.2 - 1 = i + (m + 1 + p.2) - 1 by omega]
          · rw [if_neg h44]
            refine .inl (whl_ret hcc ((hb0 _ hTT).trans ?_))
            unfold b__law_mflat_read_3a_1a_1
            simp_arith [resL, slcS _ _ _ _ h1, h44]
theorem mstr (cf : Cf) (d : Nat) (w : Sg) (i : Nat) (hz : w.length ≤ 8000) (hi : i < w.length) :
    evSs cf b__law_mflat_read_2a_0 [some (.str w), some (.int (i : Int)), some (.int (d : Int)), some (.str [34]), none, none, none, none, none, none] [] = .ok (.rt (resL i (strR (w.drop i)))) [] := by
  have h1 : w.length ≤ SZ := Nat.le_trans hz (by decide)
  unfold b__law_mflat_read_2a_0
  simp_arith []
  unfold b__law_mflat_read_2a_1 b__law_mflat_read_2a_1c b__law_mflat_read_2a_1a_0
  rw [evSs_cons, evS_whl]
  rw [whl_scan w SIG (fun j => [some (.str w), some (.int (i : Int)), some (.int (d : Int)), some (.str [34]), none, some (.int (j : Int)), none, none, none, none]) (i + 1) hi hz]
  rotate_left
  · intro j hj
    subst hj
    simp_arith [lenS _ _ h1, Int.lt_irrefl]
  · intro j x hj hx
    have : (j : Int) < (w.length : Int) := by omega
    simp_arith [lenS _ _ h1, this, idxS _ _ _ h1, hx]
  · intro j hj
    simp_arith []
  rw [Ro.bind_ok, flow_nx]
  rw [show (fun x => decide (x ∈ SIG)) = inSg from rfl]
  unfold strR
  have e1 : (w.drop i).drop 1 = w.drop (i + 1) := by rw [List.drop_drop]
  have hle := tw_le (p := inSg) (w := w) (st := i + 1) hi
  have htk : (w.drop (i + 1)).take (List.takeWhile inSg (w.drop (i + 1))).length = List.takeWhile inSg (w.drop (i + 1)) := by
    conv => lhs; arg 2; rw [← List.takeWhile_append_dropWhile (p := inSg) (l := w.drop (i + 1))]
    rw [List.take_left]
  rw [e1]
  generalize (List.takeWhile inSg (w.drop (i + 1))) = b at hle htk
  have e2 : (w.drop i).drop (1 + b.length) = w.drop (i + 1 + b.length) := by rw [List.drop_drop]; congr 1; omega
  rw [e2]
  unfold b__law_mflat_read_2a_2
  by_cases hq : (w.drop (i + 1 + b.length)).take 1 = [34]
  · have hs := slc_in w i b.length (by rw [List.length_drop]; omega) hi
    have e3 : i + (1 + b.length + 1) = i + 1 + b.length + 1 := by omega
    simp_arith [slcS _ _ _ _ h1, hq, hs, htk, resL, e3]
  · simp_arith [slcS _ _ _ _ h1, hq, resL]
theorem resL_pure (i : Nat) (o : Option (D × Nat)) (h : ∀ x n, o = some (x, n) → x.pure = true) : (resL i o).pure = true := by
  cases o with
  | none => rfl
  | some p => obtain ⟨x, n⟩ := p; simp [resL, D.pure, D.pures, h x n rfl]
theorem mnum (cf : Cf) (w : Sg) (i d : Nat) (hz : w.length ≤ 8000) (hi : i ≤ w.length) :
    evSs cf b__law_mflat_read_4 [some (.str w), some (.int (i : Int)), some (.int (d : Int)), some (.str ((w.drop i).take 1)), none, none, none, none, none, none] [] = .ok (.rt (resL i (numR (w.drop i)))) [] := by
  unfold b__law_mflat_read_4
  by_cases hn : (w.drop i).take 1 = [45]
  · have hl : i + 1 ≤ w.length := by
      have := congrArg List.length hn
      simp only [List.length_take, List.length_drop, List.length_cons, List.length_nil] at this
      omega
    have := mnum_tail cf w i d [45] true hz hl (by simp [hn])
    simp_arith [hn]
    exact this
  · have := mnum_tail cf w i d ((w.drop i).take 1) false hz hi (by simp [hn])
    simp_arith [hn, Int.add_zero]
    exact this
theorem read_ok : ∀ (d : Nat), d ≤ 50 → ∀ k, d + 1 ≤ k → ReadOk k d
  | d, hd, 0, hk => by omega
  | d, hd, k + 1, hk => fun w i S hz hok hi => by
    have h1 : w.length ≤ SZ := Nat.le_trans hz (by decide)
    have hp : (resL i (T d (w.drop i))).pure = true := resL_pure _ _ fun x n h => (T_Pd d _ _ _ h).1
    refine call_ok ⟨3, 10, false, b__law_mflat_read_0⟩ _ rfl rfl rfl rfl ?_ hp (S' := [])
    unfold b__law_mflat_read_0
    simp_arith [slcS _ _ _ _ h1]
    unfold b__law_mflat_read_1
    unfold T
    by_cases c1 : (w.drop i).take 1 = [78]
    · simp_arith [c1, resL]
    · by_cases c2 : (w.drop i).take 1 = [34]
      · have hil : i < w.length := by
          have := congrArg List.length c2
          simp only [List.length_take, List.length_drop, List.length_cons, List.length_nil] at this
          omega
        have e9 : (([34] : List Nat) = [78]) = False := by simp
        rw [if_neg c1, if_pos c2]
        rw [c2]
        simp_arith [e9]
        unfold b__law_mflat_read_2
        simp_arith []
        rw [mstr _ d w i hz hil]
        simp_arith []
      · rw [if_neg c1, if_neg c2]
        simp_arith [c1]
        unfold b__law_mflat_read_2
        simp_arith [c2]
        unfold b__law_mflat_read_3
        have hin : ∀ S, cmD .in_ S (.str ((w.drop i).take 1)) (.tup [.str [40], .str [91]]) = some (decide ((w.drop i).take 1 ∈ [[40], [91]])) := fun S => inT_strs S ((w.drop i).take 1) [[40], [91]]
        have hnum := mnum (pg.cf (callF pg k)) w i d hz hi
        by_cases c3 : (w.drop i).take 1 ∈ [[40], [91]]
        · rw [if_pos c3]
          cases d with
          | zero =>
            have hl : ¬ (0 : Int) < ((0 : Nat) : Int) := by decide
            rw [numR_open c3] at hnum
            simp_arith [hin, c3, hl, hnum]
          | succ d =>
            have hl : (0 : Int) < ((d + 1 : Nat) : Int) := by omega
            obtain ⟨c, hc, hc4⟩ : ∃ c, (w.drop i).take 1 = [c] ∧ (c = 40 ∨ c = 91) := by
              rcases List.mem_cons.mp c3 with h | h
              · exact ⟨40, h, .inl rfl⟩
              · exact ⟨91, by simpa using h, .inr rfl⟩
            have hil : i < w.length := by
              have := congrArg List.length hc
              simp only [List.length_take, List.length_drop, List.length_cons, List.length_nil] at this
              omega
            have hlp := rd_loop k d (read_ok d (by omega) k (by omega)) w i c hc4 hz hok ((w.drop i).length) (i + 1) [] none FUEL (by rw [List.length_drop]; omega) hil (Nat.zero_le _) (Nat.lt_of_le_of_lt (show (w.drop i).length ≤ 8000 by rw [List.length_drop]; omega) (by decide))
            have e : ([c] = [40]) = (c = 40) := by simp
            have e2 : (w.drop i).drop 1 = w.drop (i + 1) := by rw [List.drop_drop]
            rw [hc] at c3 hin ⊢
            simp_arith [hin, c3, hl]
            unfold b__law_mflat_read_3a_0
            simp_arith []
            unfold b__law_mflat_read_3a_1
            rw [evSs_cons, evS_whl]
            simp only [e, e2]
            cases hr : rowR (T d) (if c = 40 then 41 else 93) (w.drop i).length (w.drop (i + 1)) with
            | none =>
              rw [hr] at hlp
              rcases hlp with e | ⟨acc', v, e⟩
              · rw [show whlLoop _ _ FUEL _ _ = _ from e]
                simp_arith [resL]
              · rw [show whlLoop _ _ FUEL _ _ = _ from e]
                unfold b__law_mflat_read_3a_2
                simp_arith [lenS _ _ h1, Int.le_refl, resL]
            | some p =>
              rw [hr] at hlp
              obtain ⟨hlt, v, e⟩ := hlp
              rw [show whlLoop _ _ FUEL _ _ = _ from e]
              have hge : ¬ (w.length : Int) ≤ ((i + 1 + p.2 - 1 : Nat) : Int) := by omega
              have hrl := rowR_len (T_len d) hr
              have ea : i + 1 + p.2 - 1 + 1 = i + (1 + p.2) := by omega
              unfold b__law_mflat_read_3a_2
              rcases hc4 with rfl | rfl
              · have e9 : (([40] : List Nat) = [91]) = False := by simp
                simp_arith [lenS _ _ h1, hge, e9, resL, ea]
              · have e8 : ((91 : Nat) = 40) = False := by simp
                simp_arith [lenS _ _ h1, hge, e8, resL, ea]
        · rw [if_neg c3]
          simp_arith [hin, c3, hnum]
end K85m
namespace K85m
open Pv Pw K85
def PUT : Sg := [112, 117, 116]
def DROP : Sg := [100, 114, 111, 112]
def CHG : Sg := [99, 104, 97, 110, 103, 101]
/-- the text of lines -/
def mtext (ls : List Sg) : Sg := (ls.map fun l => l ++ [10]).flatten
structure St where
  found : List D
  left : Nat
  ls : List Sg
def chg (t : Sg) : D := .tup [.str CHG, .str t]
/-- a put told by a line -/
def putR (line : Sg) : Option D :=
  let ws := splitC 32 [] line
  let w1 := ws.getD 1 []
  let w2 := ws.getD 2 []
  if decide (4 ≤ ws.length) && (nameB w1 && nameB w2) then
    let flat := line.drop (w1.length + w2.length + 6)
    match T 8 flat with
    | none => none
    | some p => if p.2 = flat.length then some (.tup [.str PUT, .str w1, .str w2, p.1]) else none
  else none
/-- a line taken -/
def stepR (st : St) (line : Sg) : Option St :=
  if 0 < st.left then
    let ls := st.ls ++ [line.drop 1]
    if decide (line.take 1 = [124]) && decide ((mtext ls).length + (st.left - 1) ≤ 8000) then
      (if st.left - 1 = 0 then some ⟨st.found ++ [chg (mtext ls)], 0, []⟩ else some ⟨st.found, st.left - 1, ls⟩)
    else none
  else
    let ws := splitC 32 [] line
    let w0 := ws.getD 0 []
    let w1 := ws.getD 1 []
    if w0 = PUT then (match putR line with
      | none => none
      | some x => some ⟨st.found ++ [x], 0, []⟩)
    else if decide (w0 = DROP) && (decide (ws.length = 2) && nameB w1) then some ⟨st.found ++ [.tup (ws.map .str)], 0, []⟩
    else if decide (w0 = CHG) && decide (ws.length = 2) then (match figR w1 with
      | none => none
      | some n => if n ≤ 8000 then (if n = 0 then some ⟨st.found ++ [chg []], 0, []⟩ else some ⟨st.found, n, []⟩) else none)
    else none
/-- what is kept of a state -/
def St.Ok (st : St) : Prop := (st.left = 0 → st.ls = []) ∧ (mtext st.ls).length ≤ 8000 ∧ st.left ≤ 8000
theorem mtext_append (a b : List Sg) : mtext (a ++ b) = mtext a ++ mtext b := by simp [mtext]
theorem mtext_len (ls : List Sg) : ls.length ≤ (mtext ls).length := by
  induction ls with
  | nil => simp
  | cons l ls ih =>
    rw [show l :: ls = [l] ++ ls from rfl, mtext_append]
    simp [mtext] at ih ⊢; omega
theorem stepR_ok {st st' : St} {line : Sg} (h : stepR st line = some st') (hk : st.Ok) : st'.Ok ∧ st'.found.length ≤ st.found.length + 1 := by
  unfold stepR at h
  split at h
  · rename_i hl
    simp only [] at h
    split at h
    · rename_i hc
      (simp only [Bool.and_eq_true, decide_eq_true_eq] at hc)
      split at h
      · cases h; exact ⟨⟨fun _ => rfl, by simp [mtext], by simp⟩, by simp⟩
      · cases h
        refine ⟨⟨fun h => by simp only [] at h; contradiction, by simp only []; omega, by simp only []; have := hk.2.2; omega⟩, by simp⟩
    · cases h
  · simp only [] at h
    split at h
    · split at h
      · cases h
      · cases h; exact ⟨⟨fun _ => rfl, by simp [mtext], by simp⟩, by simp⟩
    · split at h
      · cases h; exact ⟨⟨fun _ => rfl, by simp [mtext], by simp⟩, by simp⟩
      · split at h
        · split at h
          · cases h
          · split at h
            · split at h
              · cases h; exact ⟨⟨fun _ => rfl, by simp [mtext], by simp⟩, by simp⟩
              · cases h
                rename_i h1 h2
                exact ⟨⟨fun h => absurd h h2, by simp [mtext], h1⟩, by simp⟩
            · cases h
        · cases h
/-- the objects of a reading -/
abbrev rS (left : Nat) (found : List D) (q : Nat) (R : Store) : Store := .ins 0 [(0, .obj 1), (1, .int (left : Int)), (2, .obj (q + 2))] :: .lst found :: R
def PS (S : Store) (st : St) : Prop := ∃ q R, S = rS st.left st.found q R ∧ R[q]? = some (.lst (st.ls.map .str))
theorem gl6 : pg.gl[6]? = some (.str [124]) := rfl
section
variable (left : Nat) (found : List D) (q : Nat) (R : Store)
theorem fl0 : fldD (rS left found q R) (.obj 0) 0 = some (.obj 1) := rfl
theorem fl1 : fldD (rS left found q R) (.obj 0) 1 = some (.int (left : Int)) := rfl
theorem fl2 : fldD (rS left found q R) (.obj 0) 2 = some (.obj (q + 2)) := rfl
theorem fc1 : fldC (rS left found q R) (.obj 0) 1 = some (0, .int (left : Int)) := rfl
theorem cl0 : isCls (rS left found q R) (.obj 0) 0 = true := rfl
theorem sf1 (n : Nat) (e : Env) : sflS (.obj 0) 1 (.int (n : Int)) e (rS left found q R) = .ok (.nx e) (rS n found q R) := rfl
theorem sf2 (n : Nat) (e : Env) : sflS (.obj 0) 2 (.obj (n + 2)) e (rS left found q R) = .ok (.nx e) (rS left found n R) := rfl
theorem app_found (y : D) (h : found.length < 8100) : meD .append (rS left found q R) (.obj 1) [y] = some (.non, rS left (found ++ [y]) q R) :=
  me_app (S := rS left found q R) (n := 1) (xs := found) y rfl (Nat.lt_trans h (by decide))
theorem mt_found : meT .append (rS left found q R) (.obj 1) = true := rfl
end
theorem close_ok (k left : Nat) (found : List D) (ls : List Sg) (q : Nat) (R : Store) (hR : R[q]? = some (.lst (ls.map .str))) (hf : found.length < 8100) (hl : (mtext ls).length ≤ 8000) (hz : ∀ l ∈ ls, l.length ≤ 8000) :
    callF pg (k + 1) 14 [.obj 0] (rS left found q R) = .ok .non (rS left (found ++ [chg (mtext ls)]) R.length (R ++ [.lst []])) := by
  refine (call_lv ⟨1, 2, false, b_DeedReading_close_0⟩ [some (.obj 0), none] rfl rfl rfl rfl).trans ?_
  unfold b_DeedReading_close_0
  have hS : (rS left found q R)[q + 2]? = some (.lst (ls.map .str)) := hR
  have hm := mtext_len ls
  have hF := ev_map (cf := pg.cf (callF pg k)) (e := [some (.obj 0), none]) (S := rS left found q R) (s := .val (.fld (.var 0) 2)) (j := 1) (ex := .bin .add (.var 1) (.lit (.str [10]))) (xs := ls.map .str) (w := [(q + 2, ls.map .str)])
    (by simp_arith [fl2, walkR_obj hS]) (still_one hS) (by rw [List.length_map]; exact Nat.le_trans (Nat.le_trans hm hl) (by decide)) (fun d => match d with | .str s => .str (s ++ [10]) | d => d) (fun x hx => by
      obtain ⟨l, h1, rfl⟩ := List.mem_map.mp hx
      have := hz l h1
      simp_arith [opAs _ l [10] (Nat.le_trans (show l.length + 1 ≤ 8001 by omega) (by decide))])
  have hmap : (ls.map D.str).map (fun d => match d with | .str s => D.str (s ++ [10]) | d => d) = (ls.map fun l => l ++ [10]).map .str := by simp
  have hj := me_join0 (S := rS left found q R) (ls.map fun l => l ++ [10]) (Nat.le_trans hl (by decide))
  have ha := app_found left found q R (.tup [.str [99, 104, 97, 110, 103, 101], .str (ls.map fun l => l ++ [10]).flatten]) hf
  rw [hmap] at hF
  simp_arith [fl0, mt_found, hF, meT_join, hj, meR_some, ha]
  unfold b_DeedReading_close_1
  simp_arith []
  exact congrArg (fun r => Ro.bind r endFl) (sf2 left (found ++ [chg (mtext ls)]) q (R ++ [.lst []]) R.length [some (.obj 0), none])
def lens1 (ls : List Sg) : List D := ls.map fun l => .int ((l.length + 1 : Nat) : Int)
theorem sum_len (S : Store) (ls : List Sg) : biD .sum S (.lst (lens1 ls)) = some (.int ((mtext ls).length : Int)) := by
  have h : intsOf (lens1 ls) = some (ls.map fun l => ((l.length + 1 : Nat) : Int)) := by
    have := intsOf_map (ls.map fun l => ((l.length + 1 : Nat) : Int))
    rw [List.map_map] at this
    exact this
  show ((some _).bind intsOf).map _ = _
  rw [Option.bind_some, h, Option.map_some]
  congr 2
  clear h
  induction ls with
  | nil => rfl
  | cons l ls ih =>
    rw [show l :: ls = [l] ++ ls from rfl, mtext_append, List.length_append]
    simp only [List.map_append, List.sum_append, ih]
    simp [mtext]
theorem take_line_ok (k : Nat) (st : St) (line : Sg) (S : Store) (hs : PS S st) (hk : st.Ok) (hl : 0 < st.left) (hf : st.found.length < 8100) (hz : line.length ≤ 8000) (hlz : ∀ l ∈ st.ls, l.length ≤ 8000) :
    match stepR st line with
    | none => ∃ S', callF pg (k + 2) 15 [.obj 0, .str line] S = .ok (.bl false) S'
    | some st' => ∃ S', callF pg (k + 2) 15 [.obj 0, .str line] S = .ok (.bl true) S' ∧ PS S' st' := by
  obtain ⟨q, R, rfl, hR⟩ := hs
  obtain ⟨found, left, ls⟩ := st
  simp only [] at hk hl hf hlz hR ⊢
  have h1 : line.length ≤ SZ := Nat.le_trans hz (by decide)
  have hm := mtext_len ls
  have hm2 := hk.2.1
  simp only [] at hm2
  have hq : q < R.length := by
    rcases Nat.lt_or_ge q R.length with h | h
    · exact h
    · rw [List.getElem?_eq_none h] at hR; cases hR
  have hsub : ((left : Int) - 1) = ((left - 1 : Nat) : Int) := by omega
  have hcall := call_lv (P := pg) (k := k + 1) (f := 15) (ds := [.obj 0, .str line]) (S := rS left found q R) ⟨2, 3, false, b_DeedReading_take_line_0⟩ [some (.obj 0), some (.str line), none] rfl rfl rfl rfl
  have hS1 : (rS (left - 1) found q R)[q + 2]? = some (.lst (ls.map .str)) := hR
  have hlsz : (ls.map D.str).length < SZ := by rw [List.length_map]; exact Nat.lt_of_le_of_lt (Nat.le_trans hm hm2) (by decide)
  have ha := me_app (.str (line.drop 1)) hS1 hlsz
  have hset : (rS (left - 1) found q R).set (q + 2) (.lst (ls.map D.str ++ [.str (line.drop 1)])) = rS (left - 1) found q (R.set q (.lst ((ls ++ [line.drop 1]).map .str))) := by
    simp
  rw [hset] at ha
  have hR2 : (R.set q (.lst ((ls ++ [line.drop 1]).map .str)))[q]? = some (.lst ((ls ++ [line.drop 1]).map .str)) := by
    rw [List.getElem?_set_self hq]
  generalize (R.set q (.lst ((ls ++ [line.drop 1]).map .str))) = R2 at ha hR2
  have hlz2 : ∀ l ∈ ls ++ [line.drop 1], l.length ≤ 8000 := by
    intro l h
    (rcases List.mem_append.mp h with h | h)
    · exact hlz l h
    · rw [List.mem_singleton.mp h, List.length_drop]; omega
  have hrun : (evSs (pg.cf (callF pg (k + 1))) b_DeedReading_take_line_0 [some (.obj 0), some (.str line), none] (rS left found q R)) = evSs (pg.cf (callF pg (k + 1))) b_DeedReading_take_line_2 [some (.obj 0), some (.str line), none] (rS (left - 1) found q R2) := by
    unfold b_DeedReading_take_line_0
    have := sf1 left found q R (left - 1) [some (.obj 0), some (.str line), none]
    simp_arith [fc1, augD, hsub, cl0, this]
    unfold b_DeedReading_take_line_1
    simp_arith [fl2, meT_app hS1, slcS _ _ _ _ h1, cut_lo line 1, show (cut line (some 1) none) = line.drop 1 from cut_lo line 1, ha, meR_some]
  have hS2 : (rS (left - 1) found q R2)[q + 2]? = some (.lst ((ls ++ [line.drop 1]).map .str)) := hR2
  have hm4 : (ls ++ [line.drop 1]).length ≤ 8001 := by simp; omega
  unfold stepR
  simp only [hl, if_true]
  generalize ls ++ [line.drop 1] = l2 at *
  have hF := ev_map (cf := pg.cf (callF pg (k + 1))) (e := [some (.obj 0), some (.str line), none]) (S := rS (left - 1) found q R2) (s := .val (.fld (.var 0) 2)) (j := 2) (ex := .bin .add (.bi .len (.var 2)) (.lit (.int 1))) (xs := l2.map .str) (w := [(q + 2, l2.map .str)])
    (by simp_arith [fl2, walkR_obj hS2]) (still_one hS2) (by rw [List.length_map]; exact Nat.le_trans hm4 (by decide)) (fun d => match d with | .str s => .int ((s.length + 1 : Nat) : Int) | d => d) (fun x hx => by
      obtain ⟨l, h1, rfl⟩ := List.mem_map.mp hx
      have := hlz2 l h1
      simp_arith [lenS _ l (Nat.le_trans this (by decide))])
  have hmap : (l2.map D.str).map (fun d => match d with | .str s => D.int ((s.length + 1 : Nat) : Int) | d => d) = lens1 l2 := by simp [lens1]
  have hsum := fun S => sum_len S l2
  rw [hmap] at hF
  have hgt : ((8000 : Int) < ((mtext l2).length : Int) + ((left - 1 : Nat) : Int)) ↔ ¬ ((mtext l2).length + (left - 1) ≤ 8000) := by omega
  have hrun2 : evSs (pg.cf (callF pg (k + 1))) b_DeedReading_take_line_2 [some (.obj 0), some (.str line), none] (rS (left - 1) found q R2) =
      (if decide (line.take 1 = [124]) && decide ((mtext l2).length + (left - 1) ≤ 8000) then evSs (pg.cf (callF pg (k + 1))) b_DeedReading_take_line_3 [some (.obj 0), some (.str line), none] (rS (left - 1) found q R2) else .ok (.rt (.bl false)) (rS (left - 1) found q R2)) := by
    unfold b_DeedReading_take_line_2
    by_cases c1 : line.take 1 = [124]
    · by_cases c2 : (mtext l2).length + (left - 1) ≤ 8000
      · simp_arith [slcS _ _ _ _ h1, show (cut line none (some 1)) = line.take 1 from cut_hi line 1, gl6, c1, hF, hsum, fl1, gl5, hgt, c2]
      · simp_arith [slcS _ _ _ _ h1, show (cut line none (some 1)) = line.take 1 from cut_hi line 1, gl6, c1, hF, hsum, fl1, gl5, hgt, c2]
    · simp_arith [slcS _ _ _ _ h1, show (cut line none (some 1)) = line.take 1 from cut_hi line 1, gl6, c1]
  rw [hrun2] at hrun
  cases hc : decide (line.take 1 = [124]) && decide ((mtext l2).length + (left - 1) ≤ 8000) with
  | false =>
    rw [hc] at hrun
    simp only [Bool.false_eq_true, if_false] at hrun ⊢
    refine ⟨rS (left - 1) found q R2, hcall.trans ?_⟩
    rw [hrun]; rfl
  | true =>
    rw [hc] at hrun
    simp only [if_true] at hrun ⊢
    (simp only [Bool.and_eq_true, decide_eq_true_eq] at hc)
    by_cases hl0 : left - 1 = 0
    · have hcl := close_ok k (left - 1) found l2 q R2 hR2 hf (by omega) hlz2
      rw [if_pos hl0]
      refine ⟨rS (left - 1) (found ++ [chg (mtext l2)]) R2.length (R2 ++ [.lst []]), hcall.trans ?_, R2.length, R2 ++ [.lst []], by rw [hl0], by simp⟩
      rw [hrun]
      have hz0 : ((left - 1 : Nat) : Int) = 0 := by omega
      unfold b_DeedReading_take_line_3
      simp_arith [fl1, hz0, cl0, hcl]
      unfold b_DeedReading_take_line_4
      simp_arith []
    · rw [if_neg hl0]
      refine ⟨rS (left - 1) found q R2, hcall.trans ?_, q, R2, rfl, hR2⟩
      rw [hrun]
      have hz0 : ¬ ((left - 1 : Nat) : Int) = 0 := by omega
      unfold b_DeedReading_take_line_3
      simp_arith [fl1, hz0]
      unfold b_DeedReading_take_line_4
      simp_arith []
end K85m
namespace K85m
open Pv Pw K85
theorem getD_map (ws : List Sg) (i : Nat) (h : i < ws.length) : (ws.map D.str)[i]? = some (.str (ws.getD i [])) := by
  rw [List.getElem?_map, List.getElem?_eq_getElem h, Option.map_some]
  simp [List.getD, h]
theorem getD_mem (ws : List Sg) (i : Nat) (h : i < ws.length) : ws.getD i [] ∈ ws := by
  simp [List.getD, h]
theorem putR_at (line : Sg) : line.length ≤ 8000 → okStr line = true → True := fun _ _ => trivial
theorem take_put_ok (k : Nat) (hk18 : 18 ≤ k) (left : Nat) (found : List D) (q : Nat) (R : Store) (line : Sg) (hf : found.length < 8100) (hz : line.length ≤ 8000) (hk : okStr line = true) :
    match putR line with
    | none => ∃ S', callF pg (k + 1) 16 [.obj 0, .str line] (rS left found q R) = .ok (.bl false) S'
    | some x => callF pg (k + 1) 16 [.obj 0, .str line] (rS left found q R) = .ok (.bl true) (rS left (found ++ [x]) q R) := by
  obtain ⟨k, rfl⟩ : ∃ j, k = j + 1 := ⟨k - 1, by omega⟩
  have h1 : line.length ≤ SZ := Nat.le_trans hz (by decide)
  have hcall := call_lv (P := pg) (k := k + 1) (f := 16) (ds := [.obj 0, .str line]) (S := rS left found q R) ⟨2, 5, false, b_DeedReading_take_put_0⟩ [some (.obj 0), some (.str line), none, none, none] rfl rfl rfl rfl
  have hsp := me_split (S := rS left found q R) 32 line (Nat.le_trans (show line.length + 2 ≤ 8002 by omega) (by decide)) (by decide)
  have hrun : evSs (pg.cf (callF pg (k + 1))) b_DeedReading_take_put_0 [some (.obj 0), some (.str line), none, none, none] (rS left found q R) = evSs (pg.cf (callF pg (k + 1))) b_DeedReading_take_put_1 [some (.obj 0), some (.str line), some (.lst ((splitC 32 [] line).map .str)), none, none] (rS left found q R) := by
    unfold b_DeedReading_take_put_0
    simp_arith [meT_split, hsp, meR_some]
  unfold putR
  have hin : ∀ w ∈ splitC 32 [] line, w.length ≤ 8000 ∧ okStr w = true := fun w hw => ⟨Nat.le_trans (len_split hw) hz, okStr_split hw hk⟩
  generalize splitC 32 [] line = ws at *
  simp only []
  have hlt : ((ws.length : Int) < 4) ↔ ¬ 4 ≤ ws.length := by omega
  by_cases c1 : 4 ≤ ws.length
  · have g1 := getD_map ws 1 (by omega)
    have g2 := getD_map ws 2 (by omega)
    have m1 := hin _ (getD_mem ws 1 (by omega))
    have m2 := hin _ (getD_mem ws 2 (by omega))
    generalize ws.getD 1 [] = w1 at *
    generalize ws.getD 2 [] = w2 at *
    have n1 := fun S => call_name k w1 S m1.1 m1.2
    have n2 := fun S => call_name k w2 S m2.1 m2.2
    have z1 : w1.length ≤ SZ := Nat.le_trans m1.1 (by decide)
    have z2 : w2.length ≤ SZ := Nat.le_trans m2.1 (by decide)
    cases c2 : nameB w1 && nameB w2 with
    | false =>
      simp only [c1, decide_true, Bool.and_false, Bool.false_eq_true, if_false]
      refine ⟨rS left found q R, hcall.trans ?_⟩
      rw [hrun]
      unfold b_DeedReading_take_put_1
      simp_arith [List.length_map, hlt, c1, g1, g2, n1, n2]
      cases nb1 : nameB w1 with
      | false => simp_arith []
      | true =>
        rw [nb1] at c2
        simp only [Bool.true_and] at c2
        simp_arith [c2]
    | true =>
      simp only [Bool.and_eq_true] at c2
      simp only [c1, decide_true, Bool.and_true, if_true]
      have hrun2 : evSs (pg.cf (callF pg (k + 1))) b_DeedReading_take_put_1 [some (.obj 0), some (.str line), some (.lst (ws.map .str)), none, none] (rS left found q R) = evSs (pg.cf (callF pg (k + 1))) b_DeedReading_take_put_4 [some (.obj 0), some (.str line), some (.lst (ws.map .str)), some (.str (line.drop (w1.length + w2.length + 6))), some (resT 0 (T 8 (line.drop (w1.length + w2.length + 6))))] (rS left found q R) := by
        unfold b_DeedReading_take_put_1
        simp_arith [List.length_map, hlt, c1, g1, g2, n1, n2, c2.1, c2.2]
        have e6 : ((w1.length : Int) + (w2.length : Int) + 6) = ((w1.length + w2.length + 6 : Nat) : Int) := by omega
        unfold b_DeedReading_take_put_2
        simp_arith [g1, g2, lenS _ _ z1, lenS _ _ z2, e6, slcS _ _ _ _ h1]
        have ht := thing_ok 8 (by decide) (k + 1) hk18 (line.drop (w1.length + w2.length + 6)) 0 (rS left found q R) (by rw [List.length_drop]; omega) (okStr_drop _ hk) (Nat.zero_le _)
        rw [List.drop_zero] at ht
        unfold b_DeedReading_take_put_3
        have ht' : callF pg (k + 1) 8 [.str (line.drop (w1.length + w2.length + 6)), .int 0, .int 8] (rS left found q R) = _ := ht
        simp_arith [gl7, ht']
      have fz : (line.drop (w1.length + w2.length + 6)).length ≤ SZ := Nat.le_trans (show (line.drop (w1.length + w2.length + 6)).length ≤ 8000 by rw [List.length_drop]; omega) (by decide)
      generalize line.drop (w1.length + w2.length + 6) = flat at *
      cases hT : T 8 flat with
      | none =>
        refine ⟨rS left found q R, hcall.trans ?_⟩
        rw [hrun, hrun2, hT]
        unfold b_DeedReading_take_put_4
        simp_arith [resT]
      | some p =>
        obtain ⟨x, n⟩ := p
        simp only []
        have he : ((n : Int) = (flat.length : Int)) ↔ n = flat.length := by omega
        by_cases c3 : n = flat.length
        · rw [if_pos c3]
          refine hcall.trans ?_
          rw [hrun, hrun2, hT]
          unfold b_DeedReading_take_put_4
          simp_arith [resT, lenS _ _ fz, he, c3]
          have ha := app_found left found q R (.tup [.str PUT, .str w1, .str w2, x]) hf
          unfold b_DeedReading_take_put_5
          have ha' : meD .append (rS left found q R) (.obj 1) [.tup [.str [112, 117, 116], .str w1, .str w2, x]] = _ := ha
          simp_arith [fl0, mt_found, g1, g2, ha', meR_some]
          unfold b_DeedReading_take_put_6
          simp_arith []
        · rw [if_neg c3]
          refine ⟨rS left found q R, hcall.trans ?_⟩
          rw [hrun, hrun2, hT]
          unfold b_DeedReading_take_put_4
          simp_arith [resT, lenS _ _ fz, he, c3]
  · simp only [c1, decide_false, Bool.false_and, Bool.false_eq_true, if_false]
    refine ⟨rS left found q R, hcall.trans ?_⟩
    rw [hrun]
    unfold b_DeedReading_take_put_1
    simp_arith [List.length_map, hlt, c1]
theorem take_ok (k : Nat) (hk18 : 18 ≤ k) (st : St) (line : Sg) (S : Store) (hs : PS S st) (hk : st.Ok) (hf : st.found.length < 8100) (hz : line.length ≤ 8000) (hok : okStr line = true) (hlz : ∀ l ∈ st.ls, l.length ≤ 8000) :
    match stepR st line with
    | none => ∃ S', callF pg (k + 2) 17 [.obj 0, .str line] S = .ok (.bl false) S'
    | some st' => ∃ S', callF pg (k + 2) 17 [.obj 0, .str line] S = .ok (.bl true) S' ∧ PS S' st' := by
  have hcall := fun S => call_lv (P := pg) (k := k + 1) (f := 17) (ds := [.obj 0, .str line]) (S := S) ⟨2, 4, false, b_DeedReading_take_0⟩ [some (.obj 0), some (.str line), none, none] rfl rfl rfl rfl
  by_cases hl : 0 < st.left
  · obtain ⟨j, rfl⟩ : ∃ j, k = j + 1 := ⟨k - 1, by omega⟩
    have := take_line_ok j st line S hs hk hl hf hz hlz
    have hrun : ∀ b S', callF pg (j + 2) 15 [.obj 0, .str line] S = .ok (.bl b) S' → callF pg (j + 1 + 2) 17 [.obj 0, .str line] S = .ok (.bl b) S' := by
      intro b S' e
      obtain ⟨q, R, rfl, hR⟩ := hs
      have hne : ¬ ((st.left : Int) = 0) := by omega
      refine (hcall _).trans ?_
      unfold b_DeedReading_take_0
      simp_arith [fl1, hne, cl0, e]
    cases hst : stepR st line with
    | none =>
      rw [hst] at this
      obtain ⟨S', e⟩ := this
      exact ⟨S', hrun _ _ e⟩
    | some st' =>
      rw [hst] at this
      obtain ⟨S', e, h⟩ := this
      exact ⟨S', hrun _ _ e, h⟩
  · obtain ⟨found, left, ls⟩ := st
    obtain ⟨q, R, rfl, hR⟩ := hs
    simp only [] at hk hl hf hlz hR ⊢
    obtain rfl : left = 0 := by omega
    obtain rfl : ls = [] := hk.1 rfl
    have h1 : line.length ≤ SZ := Nat.le_trans hz (by decide)
    have hsp := me_split (S := rS 0 found q R) 32 line (Nat.le_trans (show line.length + 2 ≤ 8002 by omega) (by decide)) (by decide)
    have hrun : evSs (pg.cf (callF pg (k + 1))) b_DeedReading_take_0 [some (.obj 0), some (.str line), none, none] (rS 0 found q R) = evSs (pg.cf (callF pg (k + 1))) b_DeedReading_take_2 [some (.obj 0), some (.str line), some (.lst ((splitC 32 [] line).map .str)), none] (rS 0 found q R) := by
      have hz0 : ((0 : Nat) : Int) = 0 := rfl
      unfold b_DeedReading_take_0
      simp_arith [fl1, hz0]
      unfold b_DeedReading_take_1
      have hsp' : meD .split (rS 0 found q R) (.str line) [.str [32]] = _ := hsp
      simp_arith [meT_split, hsp', meR_some]
    have hput := take_put_ok k hk18 0 found q R line hf hz hok
    unfold stepR
    rw [if_neg (by simp)]
    have hin : ∀ w ∈ splitC 32 [] line, w.length ≤ 8000 ∧ okStr w = true := fun w hw => ⟨Nat.le_trans (len_split hw) hz, okStr_split hw hok⟩
    have hne0 := splitC_ne 32 line []
    generalize splitC 32 [] line = ws at *
    simp only []
    have hwl : 0 < ws.length := List.length_pos_iff.mpr hne0
    have g0 := getD_map ws 0 hwl
    generalize ws.getD 0 [] = w0 at *
    by_cases c0 : w0 = PUT
    · rw [if_pos c0]
      have hrun2 : ∀ b S', callF pg (k + 1) 16 [.obj 0, .str line] (rS 0 found q R) = .ok (.bl b) S' → callF pg (k + 2) 17 [.obj 0, .str line] (rS 0 found q R) = .ok (.bl b) S' := by
        intro b S' e
        refine (hcall _).trans ?_
        rw [hrun]
        unfold b_DeedReading_take_2
        have d0 : decide (w0 = [112, 117, 116]) = true := decide_eq_true c0
        simp_arith [g0, d0, cl0, e]
      cases hp : putR line with
      | none =>
        rw [hp] at hput
        obtain ⟨S', e⟩ := hput
        exact ⟨S', hrun2 _ _ e⟩
      | some x =>
        rw [hp] at hput
        exact ⟨_, hrun2 _ _ hput, q, R, rfl, hR⟩
    · rw [if_neg c0]
      have d0 : decide (w0 = [112, 117, 116]) = false := decide_eq_false c0
      have hrun2 : evSs (pg.cf (callF pg (k + 1))) b_DeedReading_take_2 [some (.obj 0), some (.str line), some (.lst (ws.map .str)), none] (rS 0 found q R) = evSs (pg.cf (callF pg (k + 1))) b_DeedReading_take_3 [some (.obj 0), some (.str line), some (.lst (ws.map .str)), none] (rS 0 found q R) := by
        unfold b_DeedReading_take_2
        simp_arith [g0, d0]
      have he2 : ((ws.length : Int) = 2) ↔ ws.length = 2 := by omega
      by_cases c1 : ws.length = 2
      · replace he2 : ((ws.length : Int) = 2) = True := eq_true (he2.mpr c1)
        have g1 := getD_map ws 1 (by omega)
        have m1 := hin _ (getD_mem ws 1 (by omega))
        generalize ws.getD 1 [] = w1 at *
        have n1 := fun S => call_name k w1 S m1.1 m1.2
        have f1 := fun S => call_figure k w1 S m1.1 m1.2
        by_cases c2 : w0 = DROP
        · have d2 : decide (w0 = [100, 114, 111, 112]) = true := decide_eq_true c2
          have d2' : decide (w0 = DROP) = true := d2
          have d3 : decide (w0 = [99, 104, 97, 110, 103, 101]) = false := by rw [c2]; decide
          have d3' : decide (w0 = CHG) = false := d3
          have ha := app_found 0 found q R (.tup (ws.map .str)) hf
          cases c3 : nameB w1 with
          | true =>
            simp only [d2', c1, decide_true, Bool.and_self, if_true]
            refine ⟨_, (hcall _).trans ?_, q, R, rfl, hR⟩
            rw [hrun, hrun2]
            unfold b_DeedReading_take_3
            simp_arith [g0, d2, List.length_map, he2, g1, n1, c3]
            unfold b_DeedReading_take_3a_0
            simp_arith [fl0, mt_found, ha, meR_some]
            unfold b_DeedReading_take_3a_1
            simp_arith []
          | false =>
            simp only [d2', d3', c1, decide_true, Bool.and_false, Bool.false_and, Bool.false_eq_true, if_false]
            refine ⟨rS 0 found q R, (hcall _).trans ?_⟩
            rw [hrun, hrun2]
            unfold b_DeedReading_take_3
            simp_arith [g0, d2, List.length_map, he2, g1, n1, c3]
            unfold b_DeedReading_take_4
            simp_arith [g0, d3]
            unfold b_DeedReading_take_5
            simp_arith []
        · have d2 : decide (w0 = [100, 114, 111, 112]) = false := decide_eq_false c2
          have d2' : decide (w0 = DROP) = false := d2
          have hrun3 : evSs (pg.cf (callF pg (k + 1))) b_DeedReading_take_3 [some (.obj 0), some (.str line), some (.lst (ws.map .str)), none] (rS 0 found q R) = evSs (pg.cf (callF pg (k + 1))) b_DeedReading_take_4 [some (.obj 0), some (.str line), some (.lst (ws.map .str)), none] (rS 0 found q R) := by
            unfold b_DeedReading_take_3
            simp_arith [g0, d2]
          by_cases c3 : w0 = CHG
          · have d3 : decide (w0 = [99, 104, 97, 110, 103, 101]) = true := decide_eq_true c3
            have d3' : decide (w0 = CHG) = true := d3
            simp only [d2', d3', c1, decide_true, Bool.false_and, Bool.false_eq_true, if_false, Bool.and_self, if_true]
            cases hfg : figR w1 with
            | none =>
              refine ⟨rS 0 found q R, (hcall _).trans ?_⟩
              rw [hrun, hrun2, hrun3]
              unfold b_DeedReading_take_4
              simp_arith [g0, d3, List.length_map, he2, g1, f1, hfg, natO]
              unfold b_DeedReading_take_5
              simp_arith []
            | some n =>
              have hgt : ((8000 : Int) < (n : Int)) ↔ ¬ n ≤ 8000 := by omega
              simp only []
              by_cases c4 : n ≤ 8000
              · rw [if_pos c4]
                have hrun4 : evSs (pg.cf (callF pg (k + 1))) b_DeedReading_take_4 [some (.obj 0), some (.str line), some (.lst (ws.map .str)), none] (rS 0 found q R) = evSs (pg.cf (callF pg (k + 1))) b_DeedReading_take_7 [some (.obj 0), some (.str line), some (.lst (ws.map .str)), some (.int (n : Int))] (rS n found q R) := by
                  unfold b_DeedReading_take_4
                  simp_arith [g0, d3, List.length_map, he2, g1, f1, hfg, natO]
                  unfold b_DeedReading_take_5
                  simp_arith [gl5, hgt, c4]
                  unfold b_DeedReading_take_6
                  have hs := sf1 0 found q R n [some (.obj 0), some (.str line), some (.lst (ws.map .str)), some (.int (n : Int))]
                  simp_arith [hs]
                by_cases c5 : n = 0
                · rw [if_pos c5]
                  subst c5
                  have hcl := close_ok k 0 found [] q R hR hf (by simp [mtext]) (by simp)
                  refine ⟨_, (hcall _).trans ?_, R.length, R ++ [.lst []], rfl, by simp⟩
                  rw [hrun, hrun2, hrun3, hrun4]
                  have hz0 : ((0 : Nat) : Int) = 0 := rfl
                  unfold b_DeedReading_take_7
                  simp_arith [hz0, cl0, hcl]
                  unfold b_DeedReading_take_8
                  simp_arith []
                  rfl
                · rw [if_neg c5]
                  refine ⟨_, (hcall _).trans ?_, q, R, rfl, hR⟩
                  rw [hrun, hrun2, hrun3, hrun4]
                  have hz0 : ¬ ((n : Int) = 0) := by omega
                  unfold b_DeedReading_take_7
                  simp_arith [hz0]
                  unfold b_DeedReading_take_8
                  simp_arith []
              · rw [if_neg c4]
                refine ⟨rS 0 found q R, (hcall _).trans ?_⟩
                rw [hrun, hrun2, hrun3]
                unfold b_DeedReading_take_4
                simp_arith [g0, d3, List.length_map, he2, g1, f1, hfg, natO]
                unfold b_DeedReading_take_5
                simp_arith [gl5, hgt, c4]
          · have d3 : decide (w0 = [99, 104, 97, 110, 103, 101]) = false := decide_eq_false c3
            have d3' : decide (w0 = CHG) = false := d3
            simp only [d2', d3', Bool.false_and, Bool.false_eq_true, if_false]
            refine ⟨rS 0 found q R, (hcall _).trans ?_⟩
            rw [hrun, hrun2, hrun3]
            unfold b_DeedReading_take_4
            simp_arith [g0, d3]
            unfold b_DeedReading_take_5
            simp_arith []
      · replace he2 : ((ws.length : Int) = 2) = False := eq_false fun h => c1 (he2.mp h)
        simp only [c1, decide_false, Bool.false_and, Bool.and_false, Bool.false_eq_true, if_false]
        refine ⟨rS 0 found q R, (hcall _).trans ?_⟩
        rw [hrun, hrun2]
        unfold b_DeedReading_take_3
        simp_arith [g0, List.length_map, he2, ite_self]
        unfold b_DeedReading_take_4
        simp_arith [g0, List.length_map, he2, ite_self]
        unfold b_DeedReading_take_5
        simp_arith []
end K85m
namespace K85m
open Pv Pw K85
/-- lines taken one behind the other: the number of the first that can't stand, or the state behind them -/
def runR : St → Nat → List Sg → Nat ⊕ St
  | st, _, [] => .inr st
  | st, n, l :: ls => match stepR st l with
    | none => .inl n
    | some st' => runR st' (n + 1) ls
def st0 : St := ⟨[], 0, []⟩
def rows (text : Sg) : List Sg := splitC 10 [] text
/-- deeds of a text, and the number of the line that can't stand -/
def linesR (text : Sg) : List D × Option Nat := match runR st0 1 (rows text).dropLast with
  | .inl n => ([], some n)
  | .inr st => if (rows text).getLast? = some [] then (st.found, if st.left = 0 then none else some 0) else ([], some (rows text).length)
theorem mtext_mem {ls : List Sg} {l : Sg} (h : l ∈ ls) : l.length ≤ (mtext ls).length := by
  induction ls with
  | nil => cases h
  | cons a ls ih =>
    rw [show a :: ls = [a] ++ ls from rfl, mtext_append, List.length_append]
    (rcases List.mem_cons.mp h with rfl | h)
    · simp [mtext]; omega
    · have := ih h; omega
def Fd (st : St) : Prop := ∀ x ∈ st.found, Pd 20 x
theorem Pd_chg (t : Sg) : Pd 20 (chg t) := ⟨rfl, by simp [chg, D.deep, D.deeps]⟩
theorem putR_Pd {line : Sg} {x : D} (h : putR line = some x) : Pd 20 x := by
  unfold putR at h
  simp only [] at h
  split at h
  · split at h
    · cases h
    · rename_i p hp
      split at h
      · cases h
        obtain ⟨x, n⟩ := p
        have := T_Pd 8 _ _ _ hp
        exact ⟨by simp [D.pure, D.pures, this.1], by simp only [D.deep, D.deeps]; have := this.2; omega⟩
      · cases h
  · cases h
theorem Pd_strs (ws : List Sg) : Pd 20 (.tup (ws.map .str)) := by
  have : D.pures (ws.map .str) = true ∧ D.deeps (ws.map .str) = 0 := by
    induction ws with
    | nil => exact ⟨rfl, rfl⟩
    | cons w ws ih => simp [D.pures, D.deeps, D.pure, D.deep, ih.1, ih.2]
  exact ⟨by simp [D.pure, this.1], by simp [D.deep, this.2]⟩
theorem stepR_Fd {st st' : St} {line : Sg} (h : stepR st line = some st') (hk : Fd st) : Fd st' := by
  have add : ∀ (y : D) (n : Nat) (ls : List Sg), Pd 20 y → Fd ⟨st.found ++ [y], n, ls⟩ := by
    intro y n ls hy x hx
    (rcases List.mem_append.mp hx with hx | hx)
    · exact hk x hx
    · rw [List.mem_singleton.mp hx]; exact hy
  unfold stepR at h
  split at h
  · simp only [] at h
    split at h
    · split at h
      · cases h; exact add _ _ _ (Pd_chg _)
      · cases h; exact hk
    · cases h
  · simp only [] at h
    split at h
    · split at h
      · cases h
      · rename_i hp; cases h; exact add _ _ _ (putR_Pd hp)
    · split at h
      · cases h; exact add _ _ _ (Pd_strs _)
      · split at h
        · split at h
          · cases h
          · split at h
            · split at h
              · cases h; exact add _ _ _ (Pd_chg _)
              · cases h; exact hk
            · cases h
        · cases h
theorem runR_ok : ∀ (ls : List Sg) (n : Nat) (st st' : St), runR st n ls = .inr st' → st.Ok → Fd st → st'.Ok ∧ Fd st' ∧ st'.found.length ≤ st.found.length + ls.length
  | [], n, st, st', h, hk, hf => by cases h; exact ⟨hk, hf, by simp⟩
  | l :: ls, n, st, st', h, hk, hf => by
    unfold runR at h
    split at h
    · cases h
    · rename_i st2 hs
      have h2 := stepR_ok hs hk
      have := runR_ok ls _ _ _ h h2.1 (stepR_Fd hs hf)
      exact ⟨this.1, this.2.1, by have := this.2.2; have := h2.2; simp; omega⟩
abbrev lrE (text : Sg) (v3 v4 : Option D) : Env := [some (.str text), some (.obj 0), some (.lst ((rows text).map .str)), v3, v4]
abbrev lrF (k : Nat) (xs : List D) (e : Env) (S : Store) : Ro Fl := forR (pg.cf (callF pg k)) (.tp [3, 4]) b_lines_read_3a_0 e (xs, []) S
theorem lr_loop (k : Nat) (hk18 : 18 ≤ k) (text : Sg) : ∀ (ls : List Sg) (n : Nat) (st : St) (S : Store) (v3 v4 : Option D), PS S st → st.Ok → st.found.length + ls.length < 8100 → (∀ l ∈ ls, l.length ≤ 8000 ∧ okStr l = true) →
    match runR st n ls with
    | .inl m => ∃ S', lrF (k + 2) (pairs n (ls.map .str)) (lrE text v3 v4) S = .ok (.rt (.tup [.lst [], .int (m : Int)])) S'
    | .inr st' => ∃ S' v3' v4', lrF (k + 2) (pairs n (ls.map .str)) (lrE text v3 v4) S = .ok (.nx (lrE text v3' v4')) S' ∧ PS S' st'
  | [], n, st, S, v3, v4, hs, hk, hf, hl => ⟨S, v3, v4, rfl, hs⟩
  | l :: ls, n, st, S, v3, v4, hs, hk, hf, hl => by
    have h1 := hl l (List.mem_cons_self ..)
    have ht := take_ok k hk18 st l S hs hk (by simp at hf; omega) h1.1 h1.2 (fun x hx => Nat.le_trans (mtext_mem hx) hk.2.1)
    have hcl : isCls S (.obj 0) 0 = true := by obtain ⟨q, R, rfl, hR⟩ := hs; rfl
    unfold runR
    cases hst : stepR st l with
    | none =>
      rw [hst] at ht
      obtain ⟨S', e⟩ := ht
      refine ⟨S', for_ret ?_⟩
      unfold b_lines_read_3a_0
      simp_arith [hcl, e]
    | some st' =>
      rw [hst] at ht
      obtain ⟨S', e, hs'⟩ := ht
      have h2 := stepR_ok hst hk
      have ih := lr_loop k hk18 text ls (n + 1) st' S' (some (.int (n : Int))) (some (.str l)) hs' h2.1 (by have := h2.2; simp at hf; omega) (fun x hx => hl x (List.mem_cons_of_mem _ hx))
      have hstep : lrF (k + 2) (pairs n ((l :: ls).map .str)) (lrE text v3 v4) S = lrF (k + 2) (pairs (n + 1) (ls.map .str)) (lrE text (some (.int (n : Int))) (some (.str l))) S' := by
        refine for_next ?_ rfl
        unfold b_lines_read_3a_0
        simp_arith [hcl, e]
      rw [hstep]
      exact ih
theorem init_ok (k : Nat) : callF pg (k + 1) 13 [.obj 0] [.ins 0 []] = .ok .non (rS 0 [] 0 [.lst []]) := by
  refine (call_lv ⟨1, 1, false, b_DeedReading___init___0⟩ [some (.obj 0)] rfl rfl rfl rfl).trans ?_
  unfold b_DeedReading___init___0 b_DeedReading___init___1 b_DeedReading___init___2
  rfl
theorem call_lines (k : Nat) (hk18 : 18 ≤ k) (text : Sg) (S : Store) (hz : text.length ≤ 8050) (hlz : ∀ l ∈ rows text, l.length ≤ 8000) (hk : okStr text = true) :
    callF pg (k + 3) 18 [.str text] S = .ok (.tup [.lst (linesR text).1, natO (linesR text).2]) S := by
  have h1 : text.length ≤ SZ := Nat.le_trans hz (by decide)
  have hrl : (rows text).length ≤ 8051 := Nat.le_trans (splitC_len 10 text []) (by omega)
  have hloop := lr_loop k hk18 text (rows text).dropLast 1 st0 (rS 0 [] 0 [.lst []]) none none ⟨0, [.lst []], rfl, rfl⟩ ⟨fun _ => rfl, by simp [st0, mtext], by simp [st0]⟩ (by simp [st0]; omega) (fun l hl => by
    have hm : l ∈ rows text := (List.dropLast_sublist _).subset hl
    exact ⟨hlz l hm, okStr_split hm hk⟩)
  have hro := runR_ok (rows text).dropLast 1 st0
  have hsp : ∀ S, meD .split S (.str text) [.str [10]] = some (.lst ((rows text).map .str), S) := fun S => me_split (S := S) 10 text (Nat.le_trans (show text.length + 2 ≤ 8052 by omega) (by decide)) (by decide)
  have hne : rows text ≠ [] := splitC_ne 10 text []
  have hini : callF pg (k + 1 + 1) (pg.init 0) [.obj 0] [.ins 0 []] = .ok .non (rS 0 [] 0 [.lst []]) := init_ok (k + 1)
  have hrun : evSs (pg.cf (callF pg (k + 2))) b_lines_read_0 [some (.str text), none, none, none, none] [] = (forR (pg.cf (callF pg (k + 2))) (.tp [3, 4]) b_lines_read_3a_0 (lrE text none none) (pairs 1 ((rows text).dropLast.map .str), []) (rS 0 [] 0 [.lst []])).bind fun fl S => flow fl S fun e S => evSs (pg.cf (callF pg (k + 2))) b_lines_read_4 e S := by
    unfold b_lines_read_0
    simp_arith [hini, nonB]
    unfold b_lines_read_1
    simp_arith []
    unfold b_lines_read_2
    simp_arith [meT_split, hsp, meR_some]
    unfold b_lines_read_3
    rw [evSs_cons, evS_for]
    have hev : evR (pg.cf (callF pg (k + 2))) (lrE text none none) (.enf (.slc (.var 2) .abs (.neg (.lit (.int 1)))) 1) (rS 0 [] 0 [.lst []]) = .ok (pairs 1 ((rows text).dropLast.map .str), []) (rS 0 [] 0 [.lst []]) := by
      rw [evR]
      simp_arith [D.row, D.items, D.watch, List.map_dropLast]
    rw [show evR (pg.cf (callF pg (k + 2))) _ (.enf (.slc (.var 2) .abs (.neg (.lit (.int 1)))) 1) _ = _ from hev]
    rfl
  unfold linesR
  cases hr : runR st0 1 (rows text).dropLast with
  | inl m =>
    rw [hr] at hloop
    obtain ⟨S', e⟩ := hloop
    dsimp only [lrF] at e
    refine call_ok ⟨1, 5, false, b_lines_read_0⟩ _ rfl rfl rfl rfl ?_ rfl (S' := S')
    refine (congrArg (fun r => Ro.bind r endFl) hrun).trans ?_
    rw [e]
    simp_arith [natO]
  | inr st =>
    rw [hr] at hloop
    obtain ⟨S', v3, v4, e, q, R, rfl, hR⟩ := hloop
    dsimp only [lrF] at e
    obtain ⟨hok, hfd, hfl⟩ := hro st hr ⟨fun _ => rfl, by simp [st0, mtext], by simp [st0]⟩ (by intro x hx; cases hx)
    have hlast : atI ((rows text).map D.str) (-1) = some (.str ((rows text).getLast hne)) := by
      rw [atI_last _ (by simpa using hne), List.getLast_map]
    have hneg : (-(1 : Int)) = -1 := rfl
    have hrun2 : evSs (pg.cf (callF pg (k + 2))) b_lines_read_0 [some (.str text), none, none, none, none] [] = evSs (pg.cf (callF pg (k + 2))) b_lines_read_4 (lrE text v3 v4) (rS st.left st.found q R) := by
      rw [hrun, e]
      rfl
    rw [List.getLast?_eq_some_getLast hne]
    simp only [Option.some.injEq]
    by_cases c1 : (rows text).getLast hne = []
    · rw [if_pos c1]
      have d1 : decide ((rows text).getLast hne = []) = true := decide_eq_true c1
      have hfin : (evSs (pg.cf (callF pg (k + 2))) b_lines_read_0 [some (.str text), none, none, none, none] []).bind endFl = .ok (.tup [.obj 1, natO (if st.left = 0 then none else some 0)]) (rS st.left st.found q R) := by
        rw [hrun2]
        unfold b_lines_read_4
        simp_arith [hlast, d1]
        unfold b_lines_read_5
        by_cases c2 : st.left = 0
        · have c2' : ((st.left : Int) = 0) = True := eq_true (by omega)
          simp_arith [fl0, fl1, c2, c2', natO]
          rfl
        · have c2' : ((st.left : Int) = 0) = False := eq_false (by omega)
          simp_arith [fl0, fl1, c2, c2', natO]
          rfl
      refine call_frz ⟨1, 5, false, b_lines_read_0⟩ _ rfl rfl rfl rfl hfin ?_
      have hp := pures_of hfd
      have hf := frzs_id (rS st.left st.found q R) st.found 58 hp.1 (by omega)
      unfold frzD
      rw [if_neg (by simp [D.pure, D.pures])]
      have hS1 : (rS st.left st.found q R)[1]? = some (.lst st.found) := rfl
      clear hfin hrun2 e hrun
      generalize rS st.left st.found q R = SS at hf hS1 ⊢
      by_cases c2 : st.left = 0
      · simp [D.frz, mapO, hS1, hf, c2, natO]
      · simp [D.frz, mapO, hS1, hf, c2, natO]
    · rw [if_neg c1]
      have d1 : decide ((rows text).getLast hne = []) = false := decide_eq_false c1
      refine call_ok ⟨1, 5, false, b_lines_read_0⟩ _ rfl rfl rfl rfl ?_ rfl (S' := rS st.left st.found q R)
      refine (congrArg (fun r => Ro.bind r endFl) hrun2).trans ?_
      unfold b_lines_read_4
      simp_arith [hlast, d1, List.length_map, natO]
end K85m
namespace K85m
open Pv Pw K85
abbrev mE (L : D) (r left : Nat) (t : Sg) (v4 v5 v6 v7 v8 : Option D) : Env := [some L, some (.obj r), some (.int (left : Int)), some (.str t), v4, v5, v6, v7, v8]
theorem catS_ok {S : Store} {r i : Nat} {xs ys : List D} {y : D} (e : Env) (h : S[r]? = some (.lst xs)) (hy : y.items S = some ys) (hl : xs.length + ys.length ≤ SZ) : catS (.obj r) y i e S = .ok (.nx (e.set i (some (.obj S.length)))) (S ++ [.lst (xs ++ ys)]) := by
  have h1 : D.items S (.obj r) = some xs := by simp only [D.items, h]
  simp only [catS, h1, hy, if_pos hl]
theorem app_last (S : Store) (c : Cell) : (S ++ [c])[S.length]? = some c := by simp
theorem mstep (k : Nat) (hk9 : 9 ≤ k) (L : D) (st : St) (line : Sg) (S : Store) (r n : Nat) (t : Sg) (v6 v7 v8 : Option D) (hr : S[r]? = some (.lst st.found)) (ht : 0 < st.left → t = mtext st.ls) (hk : st.Ok) (hf : st.found.length < 8100) (hz : line.length ≤ 8000) (hok : okStr line = true) :
    match stepR st line with
    | none => ∃ S', evSs (pg.cf (callF pg k)) b__law_mread_lines_1a_0 (mE L r st.left t (some (.int (n : Int))) (some (.str line)) v6 v7 v8) S = .ok (.rt (.tup [.obj r, .int ((n + 1 : Nat) : Int)])) S' ∧ S'[r]? = some (.lst st.found)
    | some st' => ∃ S' r' t' v6' v7' v8', evSs (pg.cf (callF pg k)) b__law_mread_lines_1a_0 (mE L r st.left t (some (.int (n : Int))) (some (.str line)) v6 v7 v8) S = .ok (.nx (mE L r' st'.left t' (some (.int (n : Int))) (some (.str line)) v6' v7' v8')) S' ∧ S'[r']? = some (.lst st'.found) ∧ (0 < st'.left → t' = mtext st'.ls) := by
  obtain ⟨k, rfl⟩ : ∃ j, k = j + 1 := ⟨k - 1, by omega⟩
  have h1 : line.length ≤ SZ := Nat.le_trans hz (by decide)
  have hsp := fun S => me_split (S := S) 32 line (Nat.le_trans (show line.length + 2 ≤ 8002 by omega) (by decide)) (by decide)
  have hrun : evSs (pg.cf (callF pg (k + 1))) b__law_mread_lines_1a_0 (mE L r st.left t (some (.int (n : Int))) (some (.str line)) v6 v7 v8) S = evSs (pg.cf (callF pg (k + 1))) b__law_mread_lines_1a_1 (mE L r st.left t (some (.int (n : Int))) (some (.str line)) (some (.lst ((splitC 32 [] line).map .str))) v7 v8) S := by
    unfold b__law_mread_lines_1a_0
    simp_arith [meT_split, hsp, meR_some]
  rw [hrun]
  obtain ⟨found, left, ls⟩ := st
  simp only [] at hr ht hk hf ⊢
  have hfz : ∀ m ≤ 1, found.length + m ≤ SZ := fun m hm => Nat.le_trans (show found.length + m ≤ 8101 by omega) (by decide)
  unfold stepR
  simp only []
  by_cases hl : 0 < left
  · rw [if_pos hl]
    have hl' : ((0 : Int) < (left : Int)) = True := eq_true (by omega)
    have hsub : ((left : Int) - 1) = ((left - 1 : Nat) : Int) := by omega
    have ht' := ht hl
    subst ht'
    have hm2 := hk.2.1
    simp only [] at hm2
    have hnew : mtext ls ++ line.drop 1 ++ [10] = mtext (ls ++ [line.drop 1]) := by
      rw [mtext_append]; simp [mtext]
    have hz1 : (mtext ls).length + (line.drop 1).length ≤ SZ := Nat.le_trans (show (mtext ls).length + (line.drop 1).length ≤ 16000 by rw [List.length_drop]; omega) (by decide)
    have hz2 : (mtext ls ++ line.drop 1).length + 1 ≤ SZ := Nat.le_trans (show (mtext ls ++ line.drop 1).length + 1 ≤ 16001 by rw [List.length_append, List.length_drop]; omega) (by decide)
    have hz3 : (mtext (ls ++ [line.drop 1])).length ≤ SZ := by rw [← hnew, List.length_append]; exact hz2
    have hrun2 : evSs (pg.cf (callF pg (k + 1))) b__law_mread_lines_1a_1 (mE L r left (mtext ls) (some (.int (n : Int))) (some (.str line)) (some (.lst ((splitC 32 [] line).map .str))) v7 v8) S = evSs (pg.cf (callF pg (k + 1))) b__law_mread_lines_1a_1a_1 (mE L r (left - 1) (mtext (ls ++ [line.drop 1])) (some (.int (n : Int))) (some (.str line)) (some (.lst ((splitC 32 [] line).map .str))) v7 v8) S := by
      unfold b__law_mread_lines_1a_1
      simp_arith [hl']
      unfold b__law_mread_lines_1a_1a_0
      simp_arith [hsub, slcS _ _ _ _ h1, show (cut line (some 1) none) = line.drop 1 from cut_lo line 1, opAs _ _ _ hz1, opAs _ _ [10] hz2, hnew]
      have hfl : ∀ (r : Ro Fl), (r.bind fun fl S => flow fl S fun e S => Ro.ok (.nx e) S) = r := by
        intro r
        cases r with
        | ok fl S => cases fl <;> rfl
        | err => rfl
        | stuck => rfl
      rw [hfl]
    rw [hrun2]
    generalize ls ++ [line.drop 1] = l2 at *
    have hgt : ((8000 : Int) < ((mtext l2).length : Int) + ((left - 1 : Nat) : Int)) ↔ ¬ ((mtext l2).length + (left - 1) ≤ 8000) := by omega
    have hhi : (cut line none (some 1)) = line.take 1 := cut_hi line 1
    by_cases c1 : line.take 1 = [124]
    · by_cases c2 : (mtext l2).length + (left - 1) ≤ 8000
      · simp only [c1, c2, decide_true, Bool.and_self, if_true]
        have hrun3 : evSs (pg.cf (callF pg (k + 1))) b__law_mread_lines_1a_1a_1 (mE L r (left - 1) (mtext l2) (some (.int (n : Int))) (some (.str line)) (some (.lst ((splitC 32 [] line).map .str))) v7 v8) S = evSs (pg.cf (callF pg (k + 1))) b__law_mread_lines_1a_1a_2 (mE L r (left - 1) (mtext l2) (some (.int (n : Int))) (some (.str line)) (some (.lst ((splitC 32 [] line).map .str))) v7 v8) S := by
          unfold b__law_mread_lines_1a_1a_1
          simp_arith [slcS _ _ _ _ h1, hhi, c1, lenS _ _ hz3, hgt, c2]
        rw [hrun3]
        by_cases c3 : left - 1 = 0
        · rw [if_pos c3]
          have c3' : (((left - 1 : Nat) : Int) = 0) = True := eq_true (by omega)
          refine ⟨S ++ [.lst (found ++ [chg (mtext l2)])], S.length, mtext l2, some (.lst ((splitC 32 [] line).map .str)), v7, v8, ?_, app_last _ _, fun h => absurd h (by simp)⟩
          unfold b__law_mread_lines_1a_1a_2
          simp_arith [c3']
          have hc := catS_ok (i := 1) (y := .lst [chg (mtext l2)]) (mE L r (left - 1) (mtext l2) (some (.int (n : Int))) (some (.str line)) (some (.lst ((splitC 32 [] line).map .str))) v7 v8) hr rfl (hfz 1 (by omega))
          refine (congrArg (fun r => Ro.bind r fun fl S => flow fl S fun e S => Ro.ok (.nx e) S) hc).trans ?_
          rw [c3]
          rfl
        · rw [if_neg c3]
          have c3' : (((left - 1 : Nat) : Int) = 0) = False := eq_false (by omega)
          refine ⟨S ++ [.lst (found ++ [])], S.length, mtext l2, some (.lst ((splitC 32 [] line).map .str)), v7, v8, ?_, by simp, fun _ => rfl⟩
          unfold b__law_mread_lines_1a_1a_2
          simp_arith [c3']
          have hc := catS_ok (i := 1) (y := .lst []) (mE L r (left - 1) (mtext l2) (some (.int (n : Int))) (some (.str line)) (some (.lst ((splitC 32 [] line).map .str))) v7 v8) hr rfl (hfz 0 (by omega))
          exact (congrArg (fun r => Ro.bind r fun fl S => flow fl S fun e S => Ro.ok (.nx e) S) hc).trans rfl
      · simp only [c1, c2, decide_true, decide_false, Bool.and_false, Bool.false_eq_true, if_false]
        refine ⟨S, ?_, hr⟩
        unfold b__law_mread_lines_1a_1a_1
        simp_arith [slcS _ _ _ _ h1, hhi, c1, lenS _ _ hz3, hgt, c2]
    · simp only [c1, decide_false, Bool.false_and, Bool.false_eq_true, if_false]
      refine ⟨S, ?_, hr⟩
      unfold b__law_mread_lines_1a_1a_1
      simp_arith [slcS _ _ _ _ h1, hhi, c1]
  · rw [if_neg hl]
    obtain rfl : left = 0 := by omega
    have hl' : ((0 : Int) < ((0 : Nat) : Int)) = False := eq_false (by omega)
    unfold putR
    have hin : ∀ w ∈ splitC 32 [] line, w.length ≤ 8000 ∧ okStr w = true := fun w hw => ⟨Nat.le_trans (len_split hw) hz, okStr_split hw hok⟩
    have hne0 := splitC_ne 32 line []
    generalize splitC 32 [] line = ws at *
    simp only []
    have hwl : 0 < ws.length := List.length_pos_iff.mpr hne0
    have g0 := getD_map ws 0 hwl
    generalize ws.getD 0 [] = w0 at *
    have he2 : ((ws.length : Int) = 2) ↔ ws.length = 2 := by omega
    have he3 : ((3 : Int) < (ws.length : Int)) ↔ 4 ≤ ws.length := by omega
    have hbad : ∀ (v : Env), v = mE L r 0 t (some (.int (n : Int))) (some (.str line)) (some (.lst (ws.map .str))) v7 v8 → True := fun _ _ => trivial
    by_cases c0 : w0 = PUT
    · rw [if_pos c0]
      have d0 : decide (w0 = [112, 117, 116]) = true := decide_eq_true c0
      have d2 : decide (w0 = [100, 114, 111, 112]) = false := by rw [c0]; decide
      have d3 : decide (w0 = [99, 104, 97, 110, 103, 101]) = false := by rw [c0]; decide
      by_cases c1 : 4 ≤ ws.length
      · have g1 := getD_map ws 1 (by omega)
        have g2 := getD_map ws 2 (by omega)
        have m1 := hin _ (getD_mem ws 1 (by omega))
        have m2 := hin _ (getD_mem ws 2 (by omega))
        generalize ws.getD 1 [] = w1 at *
        generalize ws.getD 2 [] = w2 at *
        have n1 := fun S => call_mname k w1 S m1.1 m1.2
        have n2 := fun S => call_mname k w2 S m2.1 m2.2
        have z1 : w1.length ≤ SZ := Nat.le_trans m1.1 (by decide)
        have z2 : w2.length ≤ SZ := Nat.le_trans m2.1 (by decide)
        cases b1 : nameB w1 with
        | false =>
          simp only [c1, decide_true, Bool.false_and, Bool.and_false, Bool.false_eq_true, if_false]
          refine ⟨S, ?_, hr⟩
          unfold b__law_mread_lines_1a_1
          simp_arith [hl', g0, d0, d2, d3, List.length_map, he3, c1, g1, g2, n1, n2, b1]
        | true =>
          cases b2 : nameB w2 with
          | false =>
            simp only [c1, decide_true, Bool.false_and, Bool.and_false, Bool.false_eq_true, if_false]
            refine ⟨S, ?_, hr⟩
            unfold b__law_mread_lines_1a_1
            simp_arith [hl', g0, d0, d2, d3, List.length_map, he3, c1, g1, g2, n1, n2, b1, b2]
          | true =>
            simp only [c1, decide_true, Bool.and_self, if_true]
            have hrun2 : evSs (pg.cf (callF pg (k + 1))) b__law_mread_lines_1a_1 (mE L r 0 t (some (.int (n : Int))) (some (.str line)) (some (.lst (ws.map .str))) v7 v8) S = evSs (pg.cf (callF pg (k + 1))) b__law_mread_lines_1a_1b_0a_2 (mE L r 0 t (some (.int (n : Int))) (some (.str line)) (some (.lst (ws.map .str))) (some (.str (line.drop (w1.length + w2.length + 6)))) (some (resL 0 (T 8 (line.drop (w1.length + w2.length + 6)))))) S := by
              have e6 : ((w1.length : Int) + (w2.length : Int) + 6) = ((w1.length + w2.length + 6 : Nat) : Int) := by omega
              have hrd := read_ok 8 (by decide) (k + 1) hk9 (line.drop (w1.length + w2.length + 6)) 0 S (by rw [List.length_drop]; omega) (okStr_drop _ hok) (Nat.zero_le _)
              rw [List.drop_zero] at hrd
              have hrd' : callF pg (k + 1) 30 [.str (line.drop (w1.length + w2.length + 6)), .int 0, .int 8] S = _ := hrd
              unfold b__law_mread_lines_1a_1
              simp_arith [hl', g0, d0, d2, d3, List.length_map, he3, c1, g1, g2, n1, n2, b1, b2]
              unfold b__law_mread_lines_1a_1b_0a_0
              simp_arith [g1, g2, lenS _ _ z1, lenS _ _ z2, e6, slcS _ _ _ _ h1]
              unfold b__law_mread_lines_1a_1b_0a_1
              simp_arith [hrd']
              have hfl : ∀ (r : Ro Fl), (r.bind fun fl S => flow fl S fun e S => Ro.ok (.nx e) S) = r := by
                intro r
                cases r with
                | ok fl S => cases fl <;> rfl
                | err => rfl
                | stuck => rfl
              rw [hfl, hfl]
            rw [hrun2]
            have fz : (line.drop (w1.length + w2.length + 6)).length ≤ SZ := Nat.le_trans (show (line.drop (w1.length + w2.length + 6)).length ≤ 8000 by rw [List.length_drop]; omega) (by decide)
            generalize line.drop (w1.length + w2.length + 6) = flat at *
            cases hT : T 8 flat with
            | none =>
              refine ⟨S, ?_, hr⟩
              unfold b__law_mread_lines_1a_1b_0a_2
              simp_arith [resL]
            | some p =>
              obtain ⟨x, m⟩ := p
              simp only []
              have he : ((m : Int) = (flat.length : Int)) ↔ m = flat.length := by omega
              by_cases c3 : m = flat.length
              · rw [if_pos c3]
                refine ⟨S.set r (.lst (found ++ [.tup [.str PUT, .str w1, .str w2, x]])), r, t, some (.lst (ws.map .str)), some (.str flat), some (resL 0 (some (x, m))), ?_, ?_, fun h => absurd h (by simp)⟩
                · unfold b__law_mread_lines_1a_1b_0a_2
                  simp_arith [resL, lenS _ _ fz, he, c3]
                  have ha := me_app (.tup [.str [112, 117, 116], .str w1, .str w2, x]) hr (hfz 1 (by omega))
                  unfold b__law_mread_lines_1a_1b_0a_3
                  simp_arith [meT_app hr, g1, g2, ha, meR_some]
                  rfl
                · rw [List.getElem?_set_self]
                  rcases Nat.lt_or_ge r S.length with h | h
                  · exact h
                  · rw [List.getElem?_eq_none h] at hr; cases hr
              · rw [if_neg c3]
                refine ⟨S, ?_, hr⟩
                unfold b__law_mread_lines_1a_1b_0a_2
                simp_arith [resL, lenS _ _ fz, he, c3]
      · simp only [c1, decide_false, Bool.false_and, Bool.false_eq_true, if_false]
        refine ⟨S, ?_, hr⟩
        unfold b__law_mread_lines_1a_1
        simp_arith [hl', g0, d0, d2, d3, List.length_map, he3, c1]
    · rw [if_neg c0]
      have d0 : decide (w0 = [112, 117, 116]) = false := decide_eq_false c0
      by_cases c1 : ws.length = 2
      · replace he2 : ((ws.length : Int) = 2) = True := eq_true (he2.mpr c1)
        have g1 := getD_map ws 1 (by omega)
        have m1 := hin _ (getD_mem ws 1 (by omega))
        generalize ws.getD 1 [] = w1 at *
        have n1 := fun S => call_mname k w1 S m1.1 m1.2
        have f1 := fun S => call_count k w1 S m1.1 m1.2
        by_cases c2 : w0 = DROP
        · have d2 : decide (w0 = [100, 114, 111, 112]) = true := decide_eq_true c2
          have d2' : decide (w0 = DROP) = true := d2
          have d3 : decide (w0 = [99, 104, 97, 110, 103, 101]) = false := by rw [c2]; decide
          have d3' : decide (w0 = CHG) = false := d3
          cases c3 : nameB w1 with
          | true =>
            simp only [d2', c1, decide_true, Bool.and_self, if_true]
            have ha := me_app (.tup (ws.map .str)) hr (hfz 1 (by omega))
            refine ⟨S.set r (.lst (found ++ [.tup (ws.map .str)])), r, t, some (.lst (ws.map .str)), v7, v8, ?_, ?_, fun h => absurd h (by simp)⟩
            · unfold b__law_mread_lines_1a_1
              simp_arith [hl', g0, d0, d2, d3, List.length_map, he2, g1, n1, c3, meT_app hr, ha, meR_some]
            · rw [List.getElem?_set_self]
              rcases Nat.lt_or_ge r S.length with h | h
              · exact h
              · rw [List.getElem?_eq_none h] at hr; cases hr
          | false =>
            simp only [d2', d3', c1, decide_true, Bool.and_false, Bool.false_and, Bool.false_eq_true, if_false]
            refine ⟨S, ?_, hr⟩
            unfold b__law_mread_lines_1a_1
            simp_arith [hl', g0, d0, d2, d3, List.length_map, he2, g1, n1, c3]
        · have d2 : decide (w0 = [100, 114, 111, 112]) = false := decide_eq_false c2
          have d2' : decide (w0 = DROP) = false := d2
          by_cases c3 : w0 = CHG
          · have d3 : decide (w0 = [99, 104, 97, 110, 103, 101]) = true := decide_eq_true c3
            have d3' : decide (w0 = CHG) = true := d3
            simp only [d2', d3', c1, decide_true, Bool.false_and, Bool.false_eq_true, if_false, Bool.and_self, if_true]
            cases hfg : figR w1 with
            | none =>
              have hc : cntB w1 = false := by unfold cntB; rw [hfg]
              refine ⟨S, ?_, hr⟩
              unfold b__law_mread_lines_1a_1
              simp_arith [hl', g0, d0, d2, d3, List.length_map, he2, g1, f1, hc]
            | some m =>
              simp only []
              by_cases c4 : m ≤ 8000
              · rw [if_pos c4]
                have hc : cntB w1 = true := by unfold cntB; rw [hfg]; simpa using c4
                have hint : intS w1 = some (m : Int) := by
                  unfold figR at hfg
                  split at hfg
                  · rename_i h
                    cases hfg
                    (simp only [Bool.and_eq_true, decide_eq_true_eq] at h)
                    exact intS_figs (fun c hc => List.all_eq_true.mp h.2.2.1 c hc) (by rintro rfl; simp at h) (by omega)
                  · cases hfg
                have hrun2 : evSs (pg.cf (callF pg (k + 1))) b__law_mread_lines_1a_1 (mE L r 0 t (some (.int (n : Int))) (some (.str line)) (some (.lst (ws.map .str))) v7 v8) S = evSs (pg.cf (callF pg (k + 1))) b__law_mread_lines_1a_1b_0b_0b_0a_1 (mE L r m [] (some (.int (n : Int))) (some (.str line)) (some (.lst (ws.map .str))) v7 v8) S := by
                  unfold b__law_mread_lines_1a_1
                  simp_arith [hl', g0, d0, d2, d3, List.length_map, he2, g1, f1, hc]
                  unfold b__law_mread_lines_1a_1b_0b_0b_0a_0
                  simp_arith [g1, hint]
                  have hfl : ∀ (r : Ro Fl), (r.bind fun fl S => flow fl S fun e S => Ro.ok (.nx e) S) = r := by
                    intro r
                    cases r with
                    | ok fl S => cases fl <;> rfl
                    | err => rfl
                    | stuck => rfl
                  rw [hfl, hfl, hfl, hfl]
                rw [hrun2]
                by_cases c5 : m = 0
                · rw [if_pos c5]
                  subst c5
                  refine ⟨S ++ [.lst (found ++ [chg []])], S.length, [], some (.lst (ws.map .str)), v7, v8, ?_, app_last _ _, fun h => absurd h (by simp)⟩
                  unfold b__law_mread_lines_1a_1b_0b_0b_0a_1
                  have hz0 : (((0 : Nat) : Int) = 0) = True := eq_true rfl
                  simp_arith [hz0]
                  have hc := catS_ok (i := 1) (y := .lst [chg []]) (mE L r 0 [] (some (.int (n : Int))) (some (.str line)) (some (.lst (ws.map .str))) v7 v8) hr rfl (hfz 1 (by omega))
                  exact (congrArg (fun r => Ro.bind r fun fl S => flow fl S fun e S => Ro.ok (.nx e) S) hc).trans rfl
                · rw [if_neg c5]
                  refine ⟨S ++ [.lst (found ++ [])], S.length, [], some (.lst (ws.map .str)), v7, v8, ?_, by simp, fun _ => rfl⟩
                  unfold b__law_mread_lines_1a_1b_0b_0b_0a_1
                  have hz0 : ((m : Int) = 0) = False := eq_false (by omega)
                  simp_arith [hz0]
                  have hc := catS_ok (i := 1) (y := .lst []) (mE L r m [] (some (.int (n : Int))) (some (.str line)) (some (.lst (ws.map .str))) v7 v8) hr rfl (hfz 0 (by omega))
                  exact (congrArg (fun r => Ro.bind r fun fl S => flow fl S fun e S => Ro.ok (.nx e) S) hc).trans rfl
              · rw [if_neg c4]
                have hc : cntB w1 = false := by unfold cntB; rw [hfg]; simpa using c4
                refine ⟨S, ?_, hr⟩
                unfold b__law_mread_lines_1a_1
                simp_arith [hl', g0, d0, d2, d3, List.length_map, he2, g1, f1, hc]
          · have d3 : decide (w0 = [99, 104, 97, 110, 103, 101]) = false := decide_eq_false c3
            have d3' : decide (w0 = CHG) = false := d3
            simp only [d2', d3', Bool.false_and, Bool.false_eq_true, if_false]
            refine ⟨S, ?_, hr⟩
            unfold b__law_mread_lines_1a_1
            simp_arith [hl', g0, d0, d2, d3]
      · replace he2 : ((ws.length : Int) = 2) = False := eq_false fun h => c1 (he2.mp h)
        simp only [c1, decide_false, Bool.false_and, Bool.and_false, Bool.false_eq_true, if_false]
        refine ⟨S, ?_, hr⟩
        unfold b__law_mread_lines_1a_1
        simp_arith [hl', g0, d0, List.length_map, he2, ite_self]
end K85m
namespace K85m
open Pv Pw K85
abbrev mF (k : Nat) (xs : List D) (e : Env) (S : Store) : Ro Fl := forR (pg.cf (callF pg k)) (.tp [4, 5]) b__law_mread_lines_1a_0 e (xs, []) S
theorem m_loop (k : Nat) (hk9 : 9 ≤ k) (L : D) : ∀ (ls : List Sg) (n : Nat) (st : St) (S : Store) (r : Nat) (t : Sg) (v4 v5 v6 v7 v8 : Option D), S[r]? = some (.lst st.found) → (0 < st.left → t = mtext st.ls) → st.Ok → Fd st → st.found.length + ls.length < 8100 → (∀ l ∈ ls, l.length ≤ 8000 ∧ okStr l = true) →
    match runR st (n + 1) ls with
    | .inl m => ∃ S' r' found, mF k (pairs n (ls.map .str)) (mE L r st.left t v4 v5 v6 v7 v8) S = .ok (.rt (.tup [.obj r', .int (m : Int)])) S' ∧ S'[r']? = some (.lst found) ∧ ∀ x ∈ found, Pd 20 x
    | .inr st' => ∃ S' r' t' a4 a5 a6 a7 a8, mF k (pairs n (ls.map .str)) (mE L r st.left t v4 v5 v6 v7 v8) S = .ok (.nx (mE L r' st'.left t' a4 a5 a6 a7 a8)) S' ∧ S'[r']? = some (.lst st'.found)
  | [], n, st, S, r, t, v4, v5, v6, v7, v8, hr, ht, hk, hf, hl, hin => ⟨S, r, t, v4, v5, v6, v7, v8, rfl, hr⟩
  | l :: ls, n, st, S, r, t, v4, v5, v6, v7, v8, hr, ht, hk, hf, hl, hin => by
    have h1 := hin l (List.mem_cons_self ..)
    have hs := mstep k hk9 L st l S r n t v6 v7 v8 hr ht hk (by simp at hl; omega) h1.1 h1.2
    unfold runR
    cases hst : stepR st l with
    | none =>
      rw [hst] at hs
      obtain ⟨S', e, hr'⟩ := hs
      exact ⟨S', r, st.found, for_ret e, hr', hf⟩
    | some st' =>
      rw [hst] at hs
      obtain ⟨S', r', t', v6', v7', v8', e, hr', ht'⟩ := hs
      have h2 := stepR_ok hst hk
      have hstep : mF k (pairs n ((l :: ls).map .str)) (mE L r st.left t v4 v5 v6 v7 v8) S = mF k (pairs (n + 1) (ls.map .str)) (mE L r' st'.left t' (some (.int (n : Int))) (some (.str l)) v6' v7' v8') S' := for_next e rfl
      have ih := m_loop k hk9 L ls (n + 1) st' S' r' t' (some (.int (n : Int))) (some (.str l)) v6' v7' v8' hr' ht' h2.1 (stepR_Fd hst hf) (by have := h2.2; simp at hl; omega) (fun x hx => hin x (List.mem_cons_of_mem _ hx))
      simp only []
      cases hrr : runR st' (n + 1 + 1) ls with
      | inl m =>
        rw [hrr] at ih
        obtain ⟨S2, r2, f2, e2, h3, h4⟩ := ih
        exact ⟨S2, r2, f2, hstep.trans e2, h3, h4⟩
      | inr st2 =>
        rw [hrr] at ih
        obtain ⟨S2, r2, t2, a4, a5, a6, a7, a8, e2, h3⟩ := ih
        exact ⟨S2, r2, t2, a4, a5, a6, a7, a8, by rw [hstep]; exact e2, h3⟩
theorem frz_pair (S' : Store) (r : Nat) (found : List D) (x : D) (hr : S'[r]? = some (.lst found)) (hf : ∀ x ∈ found, Pd 20 x) (hx : x.pure = true) (hd : x.deep = 0) : frzD S' (.tup [.obj r, x]) = some (.tup [.lst found, x]) := by
  have hp := pures_of hf
  have h1 := frzs_id S' found 58 hp.1 (by omega)
  have h2 := frz_id S' x 59 hx (by omega)
  unfold frzD
  rw [if_neg (by simp [D.pure, D.pures])]
  have h3 : D.frz S' 59 (.obj r) = some (.lst found) := by
    rw [D.frz, hr]
    simp only []
    rw [h1]; rfl
  rw [D.frz]
  simp only [mapO, h2, h3, Option.map_some]
theorem call_mread (k : Nat) (hk9 : 9 ≤ k) (ls : List Sg) (S : Store) (hl : ls.length < 8100) (hin : ∀ l ∈ ls, l.length ≤ 8000 ∧ okStr l = true) :
    match runR st0 1 ls with
    | .inl m => ∃ found, callF pg (k + 1) 33 [.lst (ls.map .str)] S = .ok (.tup [.lst found, .int (m : Int)]) S
    | .inr st => callF pg (k + 1) 33 [.lst (ls.map .str)] S = .ok (.tup [.lst st.found, if st.left = 0 then .non else .int 0]) S := by
  have hloop := m_loop k hk9 (.lst (ls.map .str)) ls 0 st0 [.lst []] 0 [] none none none none none rfl (fun h => absurd h (by simp [st0])) ⟨fun _ => rfl, by simp [st0, mtext], by simp [st0]⟩ (by intro x hx; cases hx) (by simpa [st0] using hl) hin
  have hro := runR_ok ls 1 st0
  have hps : D.pures [.lst (ls.map .str)] = true := by
    have := Pd_strs ls
    simp only [Pd, D.pure] at this
    simp [D.pures, D.pure, this.1]
  have hrun : evSs (pg.cf (callF pg k)) b__law_mread_lines_0 [some (.lst (ls.map .str)), none, none, none, none, none, none, none, none] [] = (mF k (pairs 0 (ls.map .str)) (mE (.lst (ls.map .str)) 0 0 [] none none none none none) [.lst []]).bind fun fl S => flow fl S fun e S => evSs (pg.cf (callF pg k)) b__law_mread_lines_2 e S := by
    unfold b__law_mread_lines_0
    simp_arith []
    unfold b__law_mread_lines_1
    rw [evSs_cons, evS_for]
    have hev : evR (pg.cf (callF pg k)) (mE (.lst (ls.map .str)) 0 0 [] none none none none none) (.enm (.var 0)) [.lst []] = .ok (pairs 0 (ls.map .str), []) [.lst []] := by
      rw [evR]
      simp_arith [D.row, D.items, D.watch]
    have hev' : evR (pg.cf (callF pg k)) [some (.lst (ls.map .str)), some (.obj 0), some (.int 0), some (.str []), none, none, none, none, none] (.enm (.var 0)) [.lst []] = _ := hev
    rw [hev']
    rfl
  simp only [Nat.zero_add] at hloop
  cases hr : runR st0 1 ls with
  | inl m =>
    rw [hr] at hloop
    obtain ⟨S', r', found, e, h1, h2⟩ := hloop
    refine ⟨found, ?_⟩
    refine call_frz ⟨1, 9, false, b__law_mread_lines_0⟩ _ rfl (by simp [hps]) rfl rfl (d := .tup [.obj r', .int (m : Int)]) (S' := S') ?_ (frz_pair S' r' found _ h1 h2 rfl rfl)
    refine (congrArg (fun r => Ro.bind r endFl) hrun).trans ?_
    rw [show mF k (pairs 0 (ls.map .str)) (mE (.lst (ls.map .str)) 0 0 [] none none none none none) [.lst []] = _ from e]
    rfl
  | inr st =>
    rw [hr] at hloop
    obtain ⟨S', r', t', v4, v5, v6, v7, v8, e, h1⟩ := hloop
    have hok := hro st hr ⟨fun _ => rfl, by simp [st0, mtext], by simp [st0]⟩ (by intro x hx; cases hx)
    refine call_frz ⟨1, 9, false, b__law_mread_lines_0⟩ _ rfl (by simp [hps]) rfl rfl (d := .tup [.obj r', if st.left = 0 then .non else .int 0]) (S' := S') ?_ (frz_pair S' r' st.found _ h1 hok.2.1 (by split <;> rfl) (by split <;> rfl))
    refine (congrArg (fun r => Ro.bind r endFl) hrun).trans ?_
    rw [show mF k (pairs 0 (ls.map .str)) (mE (.lst (ls.map .str)) 0 0 [] none none none none none) [.lst []] = _ from e]
    rw [Ro.bind_ok, flow_nx]
    unfold b__law_mread_lines_2
    by_cases c : st.left = 0
    · have c' : ((0 : Int) < (st.left : Int)) = False := eq_false (by omega)
      rw [if_pos c]
      simp_arith [c']
    · have c' : ((0 : Int) < (st.left : Int)) = True := eq_true (by omega)
      rw [if_neg c]
      simp_arith [c']
theorem natO_pure (o : Option Nat) : (natO o).pure = true := by cases o <;> rfl
theorem call_fault (k : Nat) (hk18 : 18 ≤ k) (text : Sg) (S : Store) (hz : text.length ≤ 8050) (hlz : ∀ l ∈ rows text, l.length ≤ 8000) (hk : okStr text = true) :
    callF pg (k + 4) 19 [.str text] S = .ok (natO (linesR text).2) S := by
  have h := fun S => call_lines k hk18 text S hz hlz hk
  refine call_ok ⟨1, 1, false, b_deeds_fault⟩ _ rfl rfl rfl rfl ?_ (natO_pure _) (S' := [])
  unfold b_deeds_fault
  simp_arith [h]
theorem linesR_Pd (text : Sg) : ∀ x ∈ (linesR text).1, Pd 20 x := by
  unfold linesR
  cases hr : runR st0 1 (rows text).dropLast with
  | inl n => intro x hx; cases hx
  | inr st =>
    have hok := runR_ok (rows text).dropLast 1 st0 st hr ⟨fun _ => rfl, by simp [st0, mtext], by simp [st0]⟩ (by intro x hx; cases hx)
    simp only []
    split
    · exact hok.2.1
    · intro x hx; cases hx
theorem call_read (k : Nat) (hk18 : 18 ≤ k) (text : Sg) (S : Store) (hz : text.length ≤ 8050) (hlz : ∀ l ∈ rows text, l.length ≤ 8000) (hk : okStr text = true) :
    callF pg (k + 4) 20 [.str text] S = match (linesR text).2 with
      | none => .ok (.lst (linesR text).1) S
      | some n => .err 1 [.int (n : Int)] S := by
  have h := fun S => call_lines k hk18 text S hz hlz hk
  have hp := pures_of (linesR_Pd text)
  have hrun : evSs (pg.cf (callF pg (k + 3))) b_read_deeds_0 [some (.str text), none, none] [] = evSs (pg.cf (callF pg (k + 3))) b_read_deeds_1 [some (.str text), some (.lst (linesR text).1), some (natO (linesR text).2)] [] := by
    unfold b_read_deeds_0
    simp_arith [h]
  cases hn : (linesR text).2 with
  | none =>
    refine call_ok ⟨1, 3, false, b_read_deeds_0⟩ _ rfl rfl rfl rfl ?_ (by simpa [D.pure] using hp.1) (S' := [])
    refine (congrArg (fun r => Ro.bind r endFl) hrun).trans ?_
    rw [hn]
    unfold b_read_deeds_1
    simp_arith [natO]
    unfold b_read_deeds_2
    simp_arith []
  | some n =>
    rw [call_pure ⟨1, 3, false, b_read_deeds_0⟩ rfl rfl, runB_eq _ _ _ _ rfl]
    have : (evSs (pg.cf (callF pg (k + 3))) b_read_deeds_0 [some (.str text), none, none] []).bind endFl = .err 1 [.int (n : Int)] [] := by
      rw [hrun, hn]
      unfold b_read_deeds_1
      simp_arith [natO]
    exact (congrArg (fun r => done r S) this).trans rfl
end K85m
namespace K85m
open Pv Pw K85
abbrev sS (cells : List Int) (l c m : Nat) (R : Store) : Store := .lst (cells.map .int) :: .lst [.obj 0, .int (l : Int), .int (c : Int), .int (m : Int)] :: R
/-- the objects of a spring that drew at most n times -/
def Str (S : Store) (n : Nat) (R : Store) : Prop := ∃ cells l c m, S = sS cells l c m R ∧ c ≤ n ∧ m < 2147483648 ∧ cells.length ≤ 63
abbrev LIM : Nat := 1000000
section
variable (cells : List Int) (l c m : Nat) (R : Store)
theorem six0 : ixD (sS cells l c m R) (.obj 1) (.int 0) = some (.obj 0) := rfl
theorem six1 : ixD (sS cells l c m R) (.obj 1) (.int 1) = some (.int (l : Int)) := rfl
theorem six2 : ixD (sS cells l c m R) (.obj 1) (.int 2) = some (.int (c : Int)) := rfl
theorem six3 : ixD (sS cells l c m R) (.obj 1) (.int 3) = some (.int (m : Int)) := rfl
theorem sst1 (x : Nat) (e : Env) : stiS (.obj 1) (.int 1) (.int (x : Int)) e (sS cells l c m R) = .ok (.nx e) (sS cells x c m R) := rfl
theorem sst2 (x : Nat) (e : Env) : stiS (.obj 1) (.int 2) (.int (x : Int)) e (sS cells l c m R) = .ok (.nx e) (sS cells l x m R) := rfl
theorem sst3 (x : Nat) (e : Env) : stiS (.obj 1) (.int 3) (.int (x : Int)) e (sS cells l c m R) = .ok (.nx e) (sS cells l c x R) := rfl
theorem spop (x : Int) : meD .popAt (sS (x :: cells) l c m R) (.obj 0) [.int 0] = some (.int x, sS cells l c m R) := by
  show (if -(2 ^ 62) ≤ (0 : Int) ∧ (0 : Int) < 2 ^ 62 then (match ixN ((x :: cells).map D.int).length 0 with
        | some k => (match ((x :: cells).map D.int)[k]? with
          | some y => some (y, (sS (x :: cells) l c m R).set 0 (.lst (((x :: cells).map D.int).eraseIdx k)))
          | none => none)
        | none => none) else none) = _
  rw [if_pos ⟨by decide, by decide⟩]
  have : ixN ((x :: cells).map D.int).length 0 = some 0 := by
    unfold ixN
    rw [if_pos (by decide), if_pos (by simp)]
    rfl
  rw [this]
  rfl
theorem spop' (x : Int) : meR (meD .popAt (sS (x :: cells) l c m R) (.obj 0) [.int 0]) = .ok (.int x) (sS cells l c m R) := by
  rw [spop cells l c m R x]
  rfl
theorem seq : cmD .ne (sS cells l c m R) (.obj 0) (.lst []) = some (!cells.isEmpty) := by
  have hs : D.seens (cells.map .int) = true := by
    induction cells with
    | nil => rfl
    | cons x xs ih => simp only [List.map, D.seens, D.seen, ih, Bool.and_self]
  have hd : D.deeps (cells.map .int) = 0 := by
    clear hs
    induction cells with
    | nil => rfl
    | cons x xs ih => simp only [List.map, D.deeps, D.deep, ih, Nat.max_self]
  show (eqD _ _ _).map _ = _
  unfold eqD
  rw [if_neg (by simp [D.scal])]
  have h1 : D.one (sS cells l c m R) (.obj 0) = .lst (cells.map .int) := rfl
  have h2 : D.one (sS cells l c m R) (.lst []) = .lst [] := rfl
  simp only [h1, h2, D.seen, hs, D.deep, hd, D.deeps, D.seens]
  cases cells <;> simp [D.eqv, D.eqvs]
end
theorem fmod_nat (i : Int) (n : Nat) (h : 0 < n) : ∃ d : Nat, i.fmod (n : Int) = (d : Int) ∧ d < n := by
  have h1 := Int.fmod_nonneg_of_pos i (show (0 : Int) < n by omega)
  have h2 := Int.fmod_lt_of_pos i (show (0 : Int) < n by omega)
  exact ⟨(i.fmod n).toNat, by omega, by omega⟩
theorem opMod (S : Store) (i : Int) (n : Nat) (h : 0 < n) : opD .mod S (.int i) (.int (n : Int)) = some (.int (i.fmod n)) := by
  show (if (n : Int) ≠ 0 then some (D.int (i.fmod n)) else none) = _
  rw [if_pos (by omega)]
theorem opDiv (S : Store) (i n : Nat) (h : 0 < n) (h2 : n < 1073741824) : opD .fdiv S (.int (i : Int)) (.int (n : Int)) = some (.int ((i / n : Nat) : Int)) := by
  show (if (n : Int) ≠ 0 ∧ (n : Int).natAbs < 1073741824 then some (D.int ((i : Int).fdiv n)) else none) = _
  rw [if_pos ⟨by omega, by omega⟩, Int.ofNat_fdiv]
theorem opMulL (S : Store) (i j : Int) (h : lim j = true) : opD .mul S (.int i) (.int j) = some (.int (i * j)) := by simp [opD, h]
theorem opMulR (S : Store) (i j : Int) (h : lim i = true) : opD .mul S (.int i) (.int j) = some (.int (i * j)) := by simp [opD, h]
theorem opPow (S : Store) (i n : Nat) (h : i < 18446744073709551616) (h2 : n ≤ 1000000) : opD .pow S (.int (i : Int)) (.int (n : Int)) = some (.int ((i : Int) ^ n)) := by
  show (if 0 ≤ (n : Int) ∧ (n : Int) ≤ 1000000 ∧ (i : Int).natAbs < 2 ^ 64 then some (D.int ((i : Int) ^ (n : Int).toNat)) else none) = _
  rw [if_pos ⟨by omega, by omega, by simpa using h⟩]
  rfl
theorem biIntI (S : Store) (i : Int) : biD .int S (.int i) = some (.int i) := rfl
/-- cells taken up until one is great -/
theorem below_loop (k : Nat) (many c : Nat) (R : Store) : ∀ (cells : List Int) (l m : Nat) (v3 : Option D) (fuel : Nat), m < 2147483648 → cells.length < fuel → cells.length ≤ 63 →
    ∃ cells' l' m' v3', m' < 2147483648 ∧ cells'.length ≤ 63 ∧ whlLoop (fun e S => evE (pg.cf (callF pg k)) e true b__law_below_1c S) (fun e S => evSs (pg.cf (callF pg k)) b__law_below_1a_0 e S) fuel [some (.obj 1), some (.int (many : Int)), none, v3, none] (sS cells l c m R) = .ok (.nx [some (.obj 1), some (.int (many : Int)), none, v3', none]) (sS cells' l' c m' R)
  | cells, l, m, v3, 0, hm, hf, h63 => by omega
  | cells, l, m, v3, fuel + 1, hm, hf, h63 => by
    have hc : evE (pg.cf (callF pg k)) [some (.obj 1), some (.int (many : Int)), none, v3, none] true b__law_below_1c (sS cells l c m R) = .ok (.bl (decide (l = 0) && !cells.isEmpty)) (sS cells l c m R) := by
      unfold b__law_below_1c
      by_cases h : l = 0
      · have h' : ((l : Int) = 0) = True := eq_true (by omega)
        have hd : decide (l = 0) = true := decide_eq_true h
        simp_arith [six1, h', six0, seq, hd]
      · have h' : ((l : Int) = 0) = False := eq_false (by omega)
        simp_arith [six1, h', h]
    cases hb : decide (l = 0) && !cells.isEmpty with
    | false =>
      rw [hb] at hc
      exact ⟨cells, l, m, v3, hm, h63, whl_exit hc⟩
    | true =>
      rw [hb] at hc
      obtain ⟨x, xs, rfl⟩ : ∃ x xs, cells = x :: xs := by
        cases cells with
        | nil => simp at hb
        | cons x xs => exact ⟨x, xs, rfl⟩
      obtain ⟨m', hm', hlt⟩ := fmod_nat ((m : Int) * 69031 + x + 13) 2147483647 (by decide)
      have hlim : lim 69031 = true := by decide
      have hmod := opMod (sS xs l c m R) ((m : Int) * 69031 + x + 13) 2147483647 (by decide)
      have hpow : ∀ S, opD .pow S (.int 10) (.int 18) = some (.int 1000000000000000000) := fun S => by
        have := opPow S 10 18 (by decide) (by decide)
        rw [show opD .pow S (.int 10) (.int 18) = _ from this]
        simp
      have hstep : ∃ l', evSs (pg.cf (callF pg k)) b__law_below_1a_0 [some (.obj 1), some (.int (many : Int)), none, v3, none] (sS (x :: xs) l c m R) = .ok (.nx [some (.obj 1), some (.int (many : Int)), none, some (.int x), none]) (sS xs l' c m' R) := by
        have e1 : evSs (pg.cf (callF pg k)) b__law_below_1a_0 [some (.obj 1), some (.int (many : Int)), none, v3, none] (sS (x :: xs) l c m R) = evSs (pg.cf (callF pg k)) b__law_below_1a_2 [some (.obj 1), some (.int (many : Int)), none, some (.int x), none] (sS xs l c m' R) := by
          have hpop := spop' xs l c m R x
          have hst := sst3 xs l c m R m' [some (.obj 1), some (.int (many : Int)), none, some (.int x), none]
          have hmt : ∀ R', meT .popAt (Cell.lst R' :: .lst [.obj 0, .int (l : Int), .int (c : Int), .int (m : Int)] :: R) (.obj 0) = true := fun _ => rfl
          unfold b__law_below_1a_0
          simp_arith [six0, hmt, hpop]
          unfold b__law_below_1a_1
          have hmod' : opD .mod (sS xs l c m R) (.int ((m : Int) * 69031 + x + 13)) (.int 2147483647) = some (.int (m' : Int)) := by rw [← hm']; exact hmod
          simp_arith [six3, opMulL _ _ 69031 hlim, biIntI, hmod', hst]
        by_cases hx : 1000000000000000000 ≤ x
        · have hx' : (x : Int) = ((x.toNat : Nat) : Int) := by omega
          refine ⟨x.toNat, e1.trans ?_⟩
          have hst := sst1 xs l c m' R x.toNat [some (.obj 1), some (.int (many : Int)), none, some (.int x), none]
          rw [← hx'] at hst
          unfold b__law_below_1a_2
          simp_arith [hpow, hx, hst]
        · refine ⟨0, e1.trans ?_⟩
          have hst := sst1 xs l c m' R 0 [some (.obj 1), some (.int (many : Int)), none, some (.int x), none]
          have hst' : stiS (.obj 1) (.int 1) (.int 0) [some (.obj 1), some (.int (many : Int)), none, some (.int x), none] (sS xs l c m' R) = _ := hst
          unfold b__law_below_1a_2
          simp_arith [hpow, hx, hst']
      obtain ⟨l', hstep⟩ := hstep
      obtain ⟨cells2, l2, m2, v2, h2, h3, e2⟩ := below_loop k many c R xs l' m' (some (.int x)) fuel (by omega) (by simp at hf; omega) (by simp at h63; omega)
      exact ⟨cells2, l2, m2, v2, h2, h3, (whl_next hc hstep).trans e2⟩
theorem call_below (k many : Nat) (h1 : 1 ≤ many) (h2 : many < 1000000) (S : Store) (n : Nat) (R : Store) (hS : Str S n R) (hn : n < LIM) :
    ∃ (d : Nat) (S' : Store), callF pg (k + 1) 24 [.obj 1, .int (many : Int)] S = .ok (.int (d : Int)) S' ∧ d < many ∧ Str S' (n + 1) R := by
  obtain ⟨cells, l, c, m, rfl, hc, hm, h63⟩ := hS
  have hcall := call_lv (P := pg) (k := k) (f := 24) (ds := [.obj 1, .int (many : Int)]) (S := sS cells l c m R) ⟨2, 5, false, b__law_below_0⟩ [some (.obj 1), some (.int (many : Int)), none, none, none] rfl rfl rfl rfl
  obtain ⟨cells', l', m', v3, hm', h63', hloop⟩ := below_loop k many (c + 1) R cells l m none FUEL hm (Nat.lt_of_le_of_lt h63 (by decide)) h63
  have hrun : evSs (pg.cf (callF pg k)) b__law_below_0 [some (.obj 1), some (.int (many : Int)), none, none, none] (sS cells l c m R) = evSs (pg.cf (callF pg k)) b__law_below_2 [some (.obj 1), some (.int (many : Int)), none, v3, none] (sS cells' l' (c + 1) m' R) := by
    have hst := sst2 cells l c m R (c + 1) [some (.obj 1), some (.int (many : Int)), none, none, none]
    unfold b__law_below_0
    simp_arith [six2, hst]
    unfold b__law_below_1
    rw [evSs_cons, evS_whl, hloop]
    rfl
  have hmany : (many : Int) ≠ 0 := by omega
  by_cases hl : 0 < l'
  · have hl' : ((0 : Int) < (l' : Int)) = True := eq_true (by omega)
    obtain ⟨d, hd, hdl⟩ := fmod_nat (l' : Int) many h1
    refine ⟨d, sS cells' (l' / many) (c + 1) m' R, hcall.trans ?_, hdl, cells', l' / many, c + 1, m', rfl, by omega, hm', h63'⟩
    refine (congrArg (fun r => Ro.bind r endFl) hrun).trans ?_
    have hst := sst1 cells' l' (c + 1) m' R (l' / many) [some (.obj 1), some (.int (many : Int)), none, v3, some (.int (d : Int))]
    unfold b__law_below_2
    simp_arith [six1, hl']
    unfold b__law_below_2a_0
    simp_arith [six1, biIntI, opMod _ _ many h1, hd]
    unfold b__law_below_2a_1
    simp_arith [six1, opDiv _ _ many h1 (by omega), hst]
    unfold b__law_below_2a_2
    simp_arith []
  · have hl' : ((0 : Int) < (l' : Int)) = False := eq_false (by omega)
    have hlim1 : lim 9049 = true := by decide
    have hlim2 : lim 44089 = true := by decide
    have hlim3 : lim 60077 = true := by decide
    have hc1 : c + 1 ≤ LIM := by omega
    obtain ⟨p5, e5⟩ : ∃ p : Int, p = ((m' + 9049 * (c + 1) + 130073 : Nat) : Int) ^ 5 := ⟨_, rfl⟩
    obtain ⟨x, hx, hxl⟩ := fmod_nat p5 2147483629 (by decide)
    obtain ⟨p3, e3⟩ : ∃ p : Int, p = ((x * 44089 + 60077 * (c + 1) + 47 : Nat) : Int) ^ 3 := ⟨_, rfl⟩
    obtain ⟨y, hy, hyl⟩ := fmod_nat p3 1000000007 (by decide)
    obtain ⟨d, hd, hdl⟩ := fmod_nat (y : Int) many h1
    have ea : (m' : Int) + 9049 * ((c + 1 : Nat) : Int) + 130073 = ((m' + 9049 * (c + 1) + 130073 : Nat) : Int) := by omega
    have eb : (x : Int) * 44089 + 60077 * ((c + 1 : Nat) : Int) + 47 = ((x * 44089 + 60077 * (c + 1) + 47 : Nat) : Int) := by omega
    have hp5 : ∀ S, opD .pow S (.int ((m' + 9049 * (c + 1) + 130073 : Nat) : Int)) (.int 5) = some (.int p5) := fun S => e5 ▸ opPow S _ 5 (by simp only [LIM] at hc1; omega) (by decide)
    have hp3 : ∀ S, opD .pow S (.int ((x * 44089 + 60077 * (c + 1) + 47 : Nat) : Int)) (.int 3) = some (.int p3) := fun S => e3 ▸ opPow S _ 3 (by simp only [LIM] at hc1; omega) (by decide)
    have hm5 : ∀ S, opD .mod S (.int p5) (.int 2147483629) = some (.int (x : Int)) := fun S => by rw [← hx]; exact opMod S _ 2147483629 (by decide)
    have hm3 : ∀ S, opD .mod S (.int p3) (.int 1000000007) = some (.int (y : Int)) := fun S => by rw [← hy]; exact opMod S _ 1000000007 (by decide)
    have hmd : ∀ S, opD .mod S (.int (y : Int)) (.int (many : Int)) = some (.int (d : Int)) := fun S => by rw [← hd]; exact opMod S _ many h1
    refine ⟨d, sS cells' l' (c + 1) m' R, hcall.trans ?_, hdl, cells', l', c + 1, m', rfl, by omega, hm', h63'⟩
    refine (congrArg (fun r => Ro.bind r endFl) hrun).trans ?_
    unfold b__law_below_2
    simp_arith [six1, hl']
    unfold b__law_below_3
    simp_arith [six2, six3, opMulR _ 9049 _ hlim1, ea, hp5, biIntI, hm5]
    unfold b__law_below_4
    simp_arith [six2, opMulR _ 60077 _ hlim3, opMulL _ _ 44089 hlim2, eb, hp3, biIntI, hm3, hmd]
end K85m
namespace K85m
open Pv Pw K85
theorem pures_obj (n : Nat) (xs : List D) : (false || !D.pures (.obj n :: xs)) = true := by simp [D.pures, D.pure]
theorem call_pick (k : Nat) (xs : List D) (h1 : xs ≠ []) (h2 : xs.length < 1000000) (S : Store) (n : Nat) (R : Store) (hS : Str S n R) (hn : n < LIM) :
    ∃ (x : D) (S' : Store), callF pg (k + 2) 25 [.obj 1, .lst xs] S = .ok x S' ∧ x ∈ xs ∧ Str S' (n + 1) R := by
  have hlen : 1 ≤ xs.length := List.length_pos_iff.mpr h1
  obtain ⟨d, S', e, hd, hS'⟩ := call_below k xs.length hlen h2 S n R hS hn
  refine ⟨xs[d], S', ?_, List.getElem_mem _, hS'⟩
  refine (call_lv (P := pg) (k := k + 1) (f := 25) (ds := [.obj 1, .lst xs]) (S := S) ⟨2, 2, false, b__law_pick⟩ [some (.obj 1), some (.lst xs)] rfl (pures_obj _ _) rfl rfl).trans ?_
  unfold b__law_pick
  simp_arith [e, List.getElem?_eq_getElem hd]
/-- a comprehension that draws -/
theorem lc_draw {b : D → Store → Ro (Option D)} (R : Store) (Q : D → Prop) (cost top : Nat) (hb : ∀ x S n, Str S n R → n + cost ≤ top → ∃ y S', b x S = .ok (some y) S' ∧ Q y ∧ Str S' (n + cost) R) :
    ∀ (xs : List D) (S : Store) (n : Nat), Str S n R → n + cost * xs.length ≤ top → ∃ ys S', lcLoop b [] xs S = .ok ys S' ∧ ys.length = xs.length ∧ (∀ y ∈ ys, Q y) ∧ Str S' (n + cost * xs.length) R
  | [], S, n, hS, ht => ⟨[], S, rfl, rfl, by simp, hS⟩
  | x :: xs, S, n, hS, ht => by
    simp only [List.length_cons, Nat.mul_add, Nat.mul_one] at ht ⊢
    obtain ⟨y, S1, e1, hq, hS1⟩ := hb x S n hS (by omega)
    obtain ⟨ys, S2, e2, hl, hqs, hS2⟩ := lc_draw R Q cost top hb xs S1 (n + cost) hS1 (by omega)
    refine ⟨y :: ys, S2, ?_, by simp [hl], ?_, by rw [show n + (cost * xs.length + cost) = n + cost + cost * xs.length by omega]; exact hS2⟩
    · show ((b x S).sure.bind fun o S1 => if still [] S1 = true then (lcLoop b [] xs S1).bind fun ys S2 => .ok (consO o ys) S2 else .stuck) = _
      rw [e1]
      show (if still [] S1 = true then (lcLoop b [] xs S1).bind fun ys S2 => .ok (consO (some y) ys) S2 else .stuck) = _
      rw [if_pos (show still [] S1 = true from rfl), e2]
      rfl
    · intro z hz
      (rcases List.mem_cons.mp hz with rfl | hz)
      · exact hq
      · exact hqs z hz
theorem Str_mono {S : Store} {n m : Nat} {R : Store} (h : Str S n R) (hm : n ≤ m) : Str S m R := by
  obtain ⟨c, l, a, b, e, h1, h2⟩ := h
  exact ⟨c, l, a, b, e, by omega, h2⟩
def INTS : List Int := [0, 7, -3, 120, 1]
def STRS : List Sg := [[], [97], [97, 32, 98], [120, 59, 49], [60, 62, 40, 41, 91, 93, 44]]
def LEAF : List D := [.non, .int 0, .int 7, .int (-3), .int 120, .str [], .str [97], .str [97, 32, 98], .str [120, 59, 49], .str [60, 62, 40, 41, 91, 93, 44]]
/-- a thing without parts -/
def Leaf (x : D) : Prop := x = .non ∨ (∃ i, x = .int i ∧ i ∈ INTS) ∨ ∃ s, x = .str s ∧ s ∈ STRS
theorem leaf_of {x : D} (h : x ∈ LEAF) : Leaf x := by
  simp only [LEAF, List.mem_cons, List.not_mem_nil, or_false] at h
  rcases h with rfl | rfl | rfl | rfl | rfl | rfl | rfl | rfl | rfl | rfl
  · exact .inl rfl
  all_goals first | exact .inr (.inl ⟨_, rfl, by decide⟩) | exact .inr (.inr ⟨_, rfl, by decide⟩)
/-- a drawn thing -/
inductive Thing : Nat → D → Prop
  | leaf (d : Nat) (x : D) : Leaf x → Thing d x
  | lst (d : Nat) (xs : List D) : (∀ x ∈ xs, Thing d x) → xs.length ≤ 2 → Thing (d + 1) (.lst xs)
  | tup (d : Nat) (xs : List D) : (∀ x ∈ xs, Thing d x) → xs.length ≤ 2 → Thing (d + 1) (.tup xs)
def cThing : Nat → Nat
  | 0 => 2
  | d + 1 => 2 + 2 * cThing d
def rngR (x : D) (S : Store) : Ro (List D × List (Nat × List D)) := match x with
    | .int n => if -(2 ^ 62) ≤ n ∧ n < 2 ^ 62 then .ok ((List.range n.toNat).map fun k => D.int (k : Nat), []) S else .stuck
    | _ => .stuck
theorem evR_rng0 {cf : Cf} {e : Env} {a : Ex} {S : Store} : evR cf e (.rng a) S = (evE cf e false a S).bind rngR := by
  simp only [evR]; rfl
theorem rng_ok (n : Nat) (S : Store) (h : -(2 ^ 62) ≤ (n : Int) ∧ (n : Int) < 2 ^ 62) : rngR (.int (n : Int)) S = .ok ((List.range n).map fun k => D.int (k : Nat), []) S := by
  unfold rngR
  simp only [h, and_self, if_true, Int.toNat_natCast]
theorem evR_rng {cf : Cf} {e : Env} {a : Ex} {S S' : Store} {n : Nat} (h : evE cf e false a S = .ok (.int (n : Int)) S') (hn : n < 1000000) : evR cf e (.rng a) S = .ok ((List.range n).map fun k => D.int (k : Nat), []) S' := by
  rw [evR_rng0, h, Ro.bind_ok]
  refine rng_ok n S' ⟨?_, ?_⟩
  · exact Int.le_trans (show -(2 ^ 62) ≤ (0 : Int) by decide) (by omega)
  · exact Int.lt_trans (show (n : Int) < 1000000 by omega) (by decide)
theorem cThing_pos (d : Nat) : 2 ≤ cThing d := by cases d <;> simp [cThing]
theorem call_thing : ∀ (d k : Nat), d + 3 ≤ k → ∀ (S : Store) (n : Nat) (R : Store), Str S n R → n + cThing d ≤ LIM →
    ∃ (x : D) (S' : Store), callF pg k 28 [.obj 1, .int (d : Int)] S = .ok x S' ∧ Thing d x ∧ Str S' (n + cThing d) R := by
  intro d
  induction d with
  | zero =>
    intro k hk S n R hS hn
    obtain ⟨k, rfl⟩ : ∃ j, k = j + 3 := ⟨k - 3, by omega⟩
    simp only [cThing] at hn
    have hcall := call_lv (P := pg) (k := k + 2) (f := 28) (ds := [.obj 1, .int ((0 : Nat) : Int)]) (S := S) ⟨2, 5, false, b__law_mthing_0⟩ [some (.obj 1), some (.int ((0 : Nat) : Int)), none, none, none] rfl (pures_obj _ _) rfl rfl
    obtain ⟨w, S1, e1, hw, hS1⟩ := call_below (k + 1) 4 (by decide) (by decide) S n R hS (by omega)
    obtain ⟨x, S2, e2, hx, hS2⟩ := call_pick k LEAF (by decide) (by decide) S1 (n + 1) R hS1 (by omega)
    refine ⟨x, S2, hcall.trans ?_, .leaf _ _ (leaf_of hx), hS2⟩
    have h0 : ((0 : Int) < ((0 : Nat) : Int)) = False := eq_false (by omega)
    have hw4 : ((w : Int) < 4) = True := eq_true (by omega)
    have e1' : callF pg (k + 2) 24 [.obj 1, .int 4] S = _ := e1
    simp only [LEAF] at e2
    unfold b__law_mthing_0
    simp_arith [h0, e1']
    unfold b__law_mthing_1
    simp_arith [hw4, e2]
  | succ d ih =>
    intro k hk S n R hS hn
    obtain ⟨k, rfl⟩ : ∃ j, k = j + 3 := ⟨k - 3, by omega⟩
    have hcp := cThing_pos d
    simp only [cThing] at hn ⊢
    have hcall := call_lv (P := pg) (k := k + 2) (f := 28) (ds := [.obj 1, .int ((d + 1 : Nat) : Int)]) (S := S) ⟨2, 5, false, b__law_mthing_0⟩ [some (.obj 1), some (.int ((d + 1 : Nat) : Int)), none, none, none] rfl (pures_obj _ _) rfl rfl
    obtain ⟨w, S1, e1, hw, hS1⟩ := call_below (k + 1) 7 (by decide) (by decide) S n R hS (by omega)
    have h0 : ((0 : Int) < ((d + 1 : Nat) : Int)) = True := eq_true (by omega)
    have e1' : callF pg (k + 2) 24 [.obj 1, .int 7] S = _ := e1
    have hrun : evSs (pg.cf (callF pg (k + 2))) b__law_mthing_0 [some (.obj 1), some (.int ((d + 1 : Nat) : Int)), none, none, none] S = evSs (pg.cf (callF pg (k + 2))) b__law_mthing_1 [some (.obj 1), some (.int ((d + 1 : Nat) : Int)), some (.int (w : Int)), none, none] S1 := by
      unfold b__law_mthing_0
      simp_arith [h0, e1']
    by_cases hw4 : w < 4
    · obtain ⟨x, S2, e2, hx, hS2⟩ := call_pick k LEAF (by decide) (by decide) S1 (n + 1) R hS1 (by omega)
      have hw4' : ((w : Int) < 4) = True := eq_true (by omega)
      refine ⟨x, S2, hcall.trans ?_, .leaf _ _ (leaf_of hx), Str_mono hS2 (by omega)⟩
      refine (congrArg (fun r => Ro.bind r endFl) hrun).trans ?_
      simp only [LEAF] at e2
      unfold b__law_mthing_1
      simp_arith [hw4', e2]
    · have hw4' : ((w : Int) < 4) = False := eq_false (by omega)
      obtain ⟨c, S2, e2, hc, hS2⟩ := call_below (k + 1) 3 (by decide) (by decide) S1 (n + 1) R hS1 (by omega)
      have e2' : callF pg (k + 2) 24 [.obj 1, .int 3] S1 = _ := e2
      have hdd : ((d + 1 : Nat) : Int) - 1 = (d : Int) := by omega
      have hcc : cThing d * c ≤ cThing d * 2 := Nat.mul_le_mul_left _ (by omega)
      obtain ⟨ys, S3, e3, hl, hq, hS3⟩ := lc_draw (b := fun x S => (Ro.opt (bindT (.nm 4) x (wipe [some (.obj 1), some (.int ((d + 1 : Nat) : Int)), some (.int (w : Int)), none, none] [4])) S).bind fun e' S => (evIf (pg.cf (callF pg (k + 2))) e' .nil S).bind fun k_1 S => if k_1 = true then (evE (pg.cf (callF pg (k + 2))) e' false (.call 28 (.cons (.var 0) (.cons (.bin .sub (.var 1) (.lit (.int 1))) .nil))) S).bind fun d S => .ok (some d) S else .ok none S) R (Thing d) (cThing d) LIM (fun x S n hS hn => by
          obtain ⟨y, S', e, hy, hS'⟩ := ih (k + 2) (by omega) S n R hS hn
          refine ⟨y, S', ?_, hy, hS'⟩
          simp_arith [hdd, e]) ((List.range c).map fun k => D.int (k : Nat)) S2 (n + 1 + 1) hS2 (by rw [List.length_map, List.length_range]; omega)
      rw [List.length_map, List.length_range] at hl hS3
      have hrun2 : evSs (pg.cf (callF pg (k + 2))) b__law_mthing_1 [some (.obj 1), some (.int ((d + 1 : Nat) : Int)), some (.int (w : Int)), none, none] S1 = evSs (pg.cf (callF pg (k + 2))) b__law_mthing_3 [some (.obj 1), some (.int ((d + 1 : Nat) : Int)), some (.int (w : Int)), some (.lst ys), none] S3 := by
        unfold b__law_mthing_1
        simp_arith [hw4']
        unfold b__law_mthing_2
        rw [evSs_cons, evS_set, evE_lc, tst_f, evR_rng (n := c) (S' := S2) (by simp_arith [e2']) (by omega)]
        rw [Ro.bind_ok, e3, Ro.bind_ok, okL, if_pos (Nat.le_trans (show ys.length ≤ 3 by omega) (by decide))]
        simp_arith []
      by_cases hw5 : w = 4
      · have hw5' : ((w : Int) = 4) = True := eq_true (by omega)
        refine ⟨.lst ys, S3, hcall.trans ?_, .lst _ _ hq (by omega), Str_mono hS3 (by omega)⟩
        refine (congrArg (fun r => Ro.bind r endFl) (hrun.trans hrun2)).trans ?_
        unfold b__law_mthing_3
        simp_arith [hw5']
      · have hw5' : ((w : Int) = 4) = False := eq_false (by omega)
        refine ⟨.tup ys, S3, hcall.trans ?_, .tup _ _ hq (by omega), Str_mono hS3 (by omega)⟩
        refine (congrArg (fun r => Ro.bind r endFl) (hrun.trans hrun2)).trans ?_
        unfold b__law_mthing_3
        simp_arith [hw5']
end K85m
namespace K85m
open Pv Pw K85
mutual
/-- a thing told flat -/
def flat : D → Sg
  | .non => [78]
  | .str s => [34] ++ s ++ [34]
  | .int i => numS i
  | .lst xs => [91] ++ flats xs ++ [93]
  | .tup xs => [40] ++ flats xs ++ [41]
  | _ => []
def flats : List D → Sg
  | [] => []
  | x :: xs => flat x ++ [44] ++ flats xs
end
theorem flats_eq : ∀ xs : List D, flats xs = (xs.map fun x => flat x ++ [44]).flatten
  | [] => rfl
  | x :: xs => by simp [flats, flats_eq xs]
def FL : Nat → Nat
  | 0 => 12
  | d + 1 => 2 * FL d + 4
theorem FL_ge (d : Nat) : 12 ≤ FL d := by
  induction d with
  | zero => exact Nat.le_refl _
  | succ d ih => simp only [FL]; omega
theorem FL_mono {d e : Nat} (h : d ≤ e) : FL d ≤ FL e := by
  induction h with
  | refl => exact Nat.le_refl _
  | step _ ih => simp only [FL]; omega
theorem FL_8 : FL 8 ≤ 5000 := by decide
theorem ints_len : ∀ i ∈ INTS, (numS i).length ≤ 3 := by decide +kernel
theorem strs_len : ∀ s ∈ STRS, s.length ≤ 7 := by decide
theorem strs_sg : ∀ s ∈ STRS, s.all inSg = true := by decide
theorem flat_len {d : Nat} {x : D} (h : Thing d x) : (flat x).length ≤ FL d := by
  induction h with
  | leaf d x h =>
    have := FL_ge d
    rcases h with rfl | ⟨i, rfl, hi⟩ | ⟨s, rfl, hs⟩
    · simp [flat]; omega
    · have := ints_len i hi; simp only [flat]; omega
    · have := strs_len s hs; simp [flat]; omega
  | lst d xs hx hl ih =>
    have : ∀ ys : List D, (∀ y ∈ ys, (flat y).length ≤ FL d) → (flats ys).length ≤ ys.length * (FL d + 1) := by
      intro ys
      induction ys with
      | nil => intro _; simp [flats]
      | cons y ys ih2 =>
        intro hy
        have h1 := hy y (List.mem_cons_self ..)
        have h2 := ih2 fun z hz => hy z (List.mem_cons_of_mem _ hz)
        simp only [flats, List.length_append, List.length_cons, List.length_nil, Nat.add_mul]
        omega
    have h1 := this xs ih
    have h2 : xs.length * (FL d + 1) ≤ 2 * (FL d + 1) := Nat.mul_le_mul_right _ hl
    simp only [flat, FL, List.length_append, List.length_cons, List.length_nil]
    omega
  | tup d xs hx hl ih =>
    have : ∀ ys : List D, (∀ y ∈ ys, (flat y).length ≤ FL d) → (flats ys).length ≤ ys.length * (FL d + 1) := by
      intro ys
      induction ys with
      | nil => intro _; simp [flats]
      | cons y ys ih2 =>
        intro hy
        have h1 := hy y (List.mem_cons_self ..)
        have h2 := ih2 fun z hz => hy z (List.mem_cons_of_mem _ hz)
        simp only [flats, List.length_append, List.length_cons, List.length_nil, Nat.add_mul]
        omega
    have h1 := this xs ih
    have h2 : xs.length * (FL d + 1) ≤ 2 * (FL d + 1) := Nat.mul_le_mul_right _ hl
    simp only [flat, FL, List.length_append, List.length_cons, List.length_nil]
    omega
theorem thing_Pd {d : Nat} {x : D} (h : Thing d x) : Pd d x := by
  induction h with
  | leaf d x h => rcases h with rfl | ⟨i, rfl, hi⟩ | ⟨s, rfl, hs⟩ <;> exact ⟨rfl, Nat.zero_le _⟩
  | lst d xs hx hl ih =>
    have := pures_of ih
    exact ⟨by simpa [D.pure] using this.1, by simpa [D.deep] using this.2⟩
  | tup d xs hx hl ih =>
    have := pures_of ih
    exact ⟨by simpa [D.pure] using this.1, by simpa [D.deep] using this.2⟩
theorem biStr (S : Store) (i : Int) (h : i ∈ INTS) : biD .str S (.int i) = some (.str (numS i)) := by
  have : ∀ i ∈ INTS, i.natAbs < 2 ^ 200 := by decide +kernel
  show (if i.natAbs < 2 ^ 200 then some (D.str (numS i)) else none) = _
  rw [if_pos (this i h)]
theorem pures1 {d : Nat} {x : D} (h : Thing d x) : (false || !D.pures [x]) = false := by simp [D.pures, (thing_Pd h).1]
theorem parts_len {d : Nat} {xs : List D} (hx : ∀ x ∈ xs, Thing d x) (hl : xs.length ≤ 2) (hd : d ≤ 8) : (flats xs).length ≤ 20000 := by
  have h := flat_len (Thing.lst d xs hx hl)
  simp only [flat, List.length_append, List.length_cons, List.length_nil] at h
  have h2 : FL (d + 1) ≤ FL 9 := FL_mono (by omega)
  have h3 : FL 9 ≤ 10000 := by decide
  omega
/-- the parts of a flat word -/
theorem ev_parts {cf : Cf} {e : Env} {S : Store} {d f : Nat} {a : Ex} {xs : List D} {j : Nat} (hj : j < e.length) (hf : ∀ x ∈ xs, ∀ S, cf.call f [x] S = .ok (.str (flat x)) S) (hx : ∀ x ∈ xs, Thing d x) (hl : xs.length ≤ 2) (hd : d ≤ 8)
    (hR : evR cf e (.val a) S = .ok (xs, []) S) : evE cf e false (.me .join (.lit (.str [])) (.cons (.lc (.val a) (.nm j) [j] .nil (.bin .add (.call f (.cons (.var j) .nil)) (.lit (.str [44])))) .nil)) S = .ok (.str (flats xs)) S := by
  have h8 : FL d ≤ 5000 := Nat.le_trans (FL_mono hd) FL_8
  have hm := ev_map (cf := cf) (e := e) (S := S) (s := .val a) (j := j) (ex := .bin .add (.call f (.cons (.var j) .nil)) (.lit (.str [44]))) (xs := xs) (w := []) hR rfl (Nat.le_trans hl (by decide)) (fun x => .str (flat x ++ [44])) (fun x hxx => by
    have h1 := flat_len (hx x hxx)
    have h2 : ((e.set j none).set j (some x))[j]? = some (some x) := by
      have : (e.set j none).length = e.length := by simp
      rw [List.getElem?_set_self (by omega)]
    simp_arith [h2, hf x hxx, opAs _ (flat x) [44] (Nat.le_trans (show (flat x).length + 1 ≤ 5001 by omega) (by decide))])
  have hj2 := me_join0 (S := S) (xs.map fun x => flat x ++ [44]) (by rw [← flats_eq]; exact Nat.le_trans (parts_len hx hl hd) (by decide))
  rw [show (xs.map fun x => D.str (flat x ++ [44])) = (xs.map fun x => flat x ++ [44]).map .str by simp] at hm
  rw [flats_eq]
  rw [evE_me, tst_f, evE_lit, tst_f, Ro.bind_ok, if_pos (meT_join S [])]
  rw [evEs, hm, Ro.bind_ok, evEs, Ro.bind_ok, Ro.bind_ok, hj2]
  rfl
theorem call_flat {d : Nat} {x : D} (h : Thing d x) : d ≤ 9 → ∀ (k : Nat), d + 1 ≤ k → ∀ (S : Store), callF pg k 5 [x] S = .ok (.str (flat x)) S := by
  induction h with
  | leaf d x h =>
    intro hd k hk S
    obtain ⟨k, rfl⟩ : ∃ j, k = j + 1 := ⟨k - 1, by omega⟩
    refine call_ok ⟨1, 3, false, b_flat_word_0⟩ [some x, none, none] rfl (pures1 (.leaf 0 x h)) rfl rfl ?_ rfl (S' := [])
    rcases h with rfl | ⟨i, rfl, hi⟩ | ⟨s, rfl, hs⟩
    · unfold b_flat_word_0
      simp_arith []
      rfl
    · unfold b_flat_word_0
      simp_arith []
      unfold b_flat_word_1
      simp_arith []
      unfold b_flat_word_2
      simp_arith []
      unfold b_flat_word_3
      simp_arith [biStr [] i hi]
      rfl
    · have := strs_len s hs
      unfold b_flat_word_0
      simp_arith []
      unfold b_flat_word_1
      simp_arith [opAs [] [34] s (Nat.le_trans (show 1 + s.length ≤ 8 by omega) (by decide)), opAs [] (34 :: s) [34] (Nat.le_trans (show s.length + 1 + 1 ≤ 9 by omega) (by decide))]
      rfl
  | lst d xs hx hl ih =>
    intro hd k hk S
    obtain ⟨k, rfl⟩ : ∃ j, k = j + 1 := ⟨k - 1, by omega⟩
    refine call_ok ⟨1, 3, false, b_flat_word_0⟩ [some (.lst xs), none, none] rfl (pures1 (.lst d xs hx hl)) rfl rfl ?_ rfl (S' := [])
    have hp := ev_parts (cf := pg.cf (callF pg k)) (e := [some (.lst xs), some (.str [91, 93]), none]) (S := []) (f := 5) (a := .var 0) (j := 2) (by simp) (fun x hxx S => ih x hxx (by omega) k (by omega) S) hx hl (by omega) (by simp_arith [])
    have hpl := parts_len hx hl (by omega)
    unfold b_flat_word_0
    simp_arith []
    unfold b_flat_word_1
    simp_arith []
    unfold b_flat_word_2
    simp_arith []
    unfold b_flat_word_2a_0
    simp_arith []
    unfold b_flat_word_2a_1
    have hi : evE (pg.cf (callF pg k)) [some (.lst xs), some (.str [91, 93]), none] false (.idx (.var 1) (.lit (.int 0))) [] = .ok (.str [91]) [] := by simp_arith [idxS [] [91, 93] _ (by decide)]
    rw [evSs_cons, evS_ret, evE_bin, evE_bin, hi, Ro.bind_ok, hp]
    simp_arith [idxS [] [91, 93] _ (by decide), opAs [] [91] (flats xs) (Nat.le_trans (show 1 + (flats xs).length ≤ 20001 by omega) (by decide)), opAs [] (91 :: flats xs) [93] (Nat.le_trans (show (flats xs).length + 1 + 1 ≤ 20002 by omega) (by decide))]
    rfl
  | tup d xs hx hl ih =>
    intro hd k hk S
    obtain ⟨k, rfl⟩ : ∃ j, k = j + 1 := ⟨k - 1, by omega⟩
    refine call_ok ⟨1, 3, false, b_flat_word_0⟩ [some (.tup xs), none, none] rfl (pures1 (.tup d xs hx hl)) rfl rfl ?_ rfl (S' := [])
    have hp := ev_parts (cf := pg.cf (callF pg k)) (e := [some (.tup xs), some (.str [40, 41]), none]) (S := []) (f := 5) (a := .var 0) (j := 2) (by simp) (fun x hxx S => ih x hxx (by omega) k (by omega) S) hx hl (by omega) (by simp_arith [])
    have hpl := parts_len hx hl (by omega)
    unfold b_flat_word_0
    simp_arith []
    unfold b_flat_word_1
    simp_arith []
    unfold b_flat_word_2
    simp_arith []
    unfold b_flat_word_2a_0
    simp_arith []
    unfold b_flat_word_2a_1
    have hi : evE (pg.cf (callF pg k)) [some (.tup xs), some (.str [40, 41]), none] false (.idx (.var 1) (.lit (.int 0))) [] = .ok (.str [40]) [] := by simp_arith [idxS [] [40, 41] _ (by decide)]
    rw [evSs_cons, evS_ret, evE_bin, evE_bin, hi, Ro.bind_ok, hp]
    simp_arith [idxS [] [40, 41] _ (by decide), opAs [] [40] (flats xs) (Nat.le_trans (show 1 + (flats xs).length ≤ 20001 by omega) (by decide)), opAs [] (40 :: flats xs) [41] (Nat.le_trans (show (flats xs).length + 1 + 1 ≤ 20002 by omega) (by decide))]
    rfl
theorem call_mflat {d : Nat} {x : D} (h : Thing d x) : d ≤ 9 → ∀ (k : Nat), d + 1 ≤ k → ∀ (S : Store), callF pg k 29 [x] S = .ok (.str (flat x)) S := by
  induction h with
  | leaf d x h =>
    intro hd k hk S
    obtain ⟨k, rfl⟩ : ∃ j, k = j + 1 := ⟨k - 1, by omega⟩
    refine call_ok ⟨1, 3, false, b__law_mflat_0⟩ [some x, none, none] rfl (pures1 (.leaf 0 x h)) rfl rfl ?_ rfl (S' := [])
    rcases h with rfl | ⟨i, rfl, hi⟩ | ⟨s, rfl, hs⟩
    · unfold b__law_mflat_0
      simp_arith []
      rfl
    · unfold b__law_mflat_0
      simp_arith []
      unfold b__law_mflat_1
      simp_arith []
      unfold b__law_mflat_2
      simp_arith [biStr [] i hi]
      rfl
    · have := strs_len s hs
      unfold b__law_mflat_0
      simp_arith []
      unfold b__law_mflat_1
      simp_arith [opAs [] [34] s (Nat.le_trans (show 1 + s.length ≤ 8 by omega) (by decide)), opAs [] (34 :: s) [34] (Nat.le_trans (show s.length + 1 + 1 ≤ 9 by omega) (by decide))]
      rfl
  | lst d xs hx hl ih =>
    intro hd k hk S
    obtain ⟨k, rfl⟩ : ∃ j, k = j + 1 := ⟨k - 1, by omega⟩
    refine call_ok ⟨1, 3, false, b__law_mflat_0⟩ [some (.lst xs), none, none] rfl (pures1 (.lst d xs hx hl)) rfl rfl ?_ rfl (S' := [])
    have hp := ev_parts (cf := pg.cf (callF pg k)) (e := [some (.lst xs), none, none]) (S := []) (f := 29) (a := .var 0) (j := 2) (by simp) (fun x hxx S => ih x hxx (by omega) k (by omega) S) hx hl (by omega) (by simp_arith [])
    have hpl := parts_len hx hl (by omega)
    unfold b__law_mflat_0
    simp_arith []
    unfold b__law_mflat_1
    simp_arith []
    unfold b__law_mflat_2
    simp_arith []
    unfold b__law_mflat_3
    rw [evSs_cons, evS_set, hp]
    simp_arith []
    unfold b__law_mflat_4
    simp_arith [opAs [] [91] (flats xs) (Nat.le_trans (show 1 + (flats xs).length ≤ 20001 by omega) (by decide)), opAs [] (91 :: flats xs) [93] (Nat.le_trans (show (flats xs).length + 1 + 1 ≤ 20002 by omega) (by decide))]
    rfl
  | tup d xs hx hl ih =>
    intro hd k hk S
    obtain ⟨k, rfl⟩ : ∃ j, k = j + 1 := ⟨k - 1, by omega⟩
    refine call_ok ⟨1, 3, false, b__law_mflat_0⟩ [some (.tup xs), none, none] rfl (pures1 (.tup d xs hx hl)) rfl rfl ?_ rfl (S' := [])
    have hp := ev_parts (cf := pg.cf (callF pg k)) (e := [some (.tup xs), none, none]) (S := []) (f := 29) (a := .var 0) (j := 2) (by simp) (fun x hxx S => ih x hxx (by omega) k (by omega) S) hx hl (by omega) (by simp_arith [])
    have hpl := parts_len hx hl (by omega)
    unfold b__law_mflat_0
    simp_arith []
    unfold b__law_mflat_1
    simp_arith []
    unfold b__law_mflat_2
    simp_arith []
    unfold b__law_mflat_3
    rw [evSs_cons, evS_set, hp]
    simp_arith []
    unfold b__law_mflat_4
    simp_arith [opAs [] [40] (flats xs) (Nat.le_trans (show 1 + (flats xs).length ≤ 20001 by omega) (by decide)), opAs [] (40 :: flats xs) [41] (Nat.le_trans (show (flats xs).length + 1 + 1 ≤ 20002 by omega) (by decide))]
    rfl
end K85m
namespace K85m
open Pv Pw K85
/-- what may stand behind a thing -/
def Behind (rest : Sg) : Prop := rest = [] ∨ ∃ r, rest = 44 :: r
theorem behind_tw {rest : Sg} (h : Behind rest) : rest.takeWhile isF = [] := by
  rcases h with rfl | ⟨r, rfl⟩
  · rfl
  · rw [List.takeWhile_cons_of_neg (by decide)]
theorem numR_of {s : Sg} (neg : Bool) (f : Sg) (h1 : decide (s.take 1 = [45]) = neg) (h2 : (s.drop neg.toNat).takeWhile isF = f) : numR s = if badF f neg then none else some (.int (if neg then -(digVal f : Int) else digVal f), neg.toNat + f.length) := by
  subst h1
  subst h2
  rfl
theorem T_open (d : Nat) (c : Nat) (r : Sg) (hc : c = 40 ∨ c = 91) : T (d + 1) (c :: r) = (rowR (T d) (if c = 40 then 41 else 93) (c :: r).length r).map fun p => (if c = 40 then .tup p.1 else .lst p.1, 1 + p.2) := by
  have hs : (c :: r).take 1 ∈ [[40], [91]] := by rcases hc with rfl | rfl <;> simp
  have n1 : ¬ (c :: r).take 1 = [78] := by rcases hc with rfl | rfl <;> simp
  have n2 : ¬ (c :: r).take 1 = [34] := by rcases hc with rfl | rfl <;> simp
  have e : ((c :: r).take 1 = [40]) = (c = 40) := by simp
  rw [T, if_neg n1, if_neg n2, if_pos hs]
  simp only [e]
  rfl
theorem num_back (neg : Bool) (f rest : Sg) (hf : ∀ c ∈ f, isF c = true) (hb : badF f neg = false) (hr : Behind rest) :
    numR ((if neg then 45 :: f else f) ++ rest) = some (.int (if neg then -(digVal f : Int) else digVal f), neg.toNat + f.length) := by
  have htw : (f ++ rest).takeWhile isF = f := by
    rw [List.takeWhile_append_of_pos (by simpa using hf), behind_tw hr, List.append_nil]
  obtain ⟨c, f', rfl⟩ : ∃ c f', f = c :: f' := by
    cases f with
    | nil => simp [badF] at hb
    | cons c f' => exact ⟨c, f', rfl⟩
  have hc := hf c (List.mem_cons_self ..)
  have h45 : ¬ c = 45 := by rintro rfl; exact absurd hc (by decide)
  cases neg with
  | true => 
    rw [numR_of true (c :: f') (by simp) (by simpa using htw), hb]; rfl
  | false =>
    rw [numR_of false (c :: f') (by simp [h45]) (by simpa using htw), hb]; rfl
theorem numS_INTS : numS 0 = [48] ∧ numS 7 = [55] ∧ numS (-3) = [45, 51] ∧ numS 120 = [49, 50, 48] ∧ numS 1 = [49] := by decide +kernel
/-- the first sign of a flat thing -/
def HEAD : Sg := [78, 34, 91, 40, 48, 55, 45, 49]
theorem flat_head {d : Nat} {x : D} (h : Thing d x) : ∃ c r, flat x = c :: r ∧ c ∈ HEAD := by
  cases h with
  | leaf d x h =>
    rcases h with rfl | ⟨i, rfl, hi⟩ | ⟨s, rfl, hs⟩
    · exact ⟨78, [], rfl, by decide⟩
    · obtain ⟨h1, h2, h3, h4, h5⟩ := numS_INTS
      simp only [INTS, List.mem_cons, List.not_mem_nil, or_false] at hi
      rcases hi with rfl | rfl | rfl | rfl | rfl
      · exact ⟨_, _, h1, by decide⟩
      · exact ⟨_, _, h2, by decide⟩
      · exact ⟨_, _, h3, by decide⟩
      · exact ⟨_, _, h4, by decide⟩
      · exact ⟨_, _, h5, by decide⟩
    · exact ⟨34, s ++ [34], rfl, by decide⟩
  | lst d xs _ _ => exact ⟨91, flats xs ++ [93], rfl, by decide⟩
  | tup d xs _ _ => exact ⟨40, flats xs ++ [41], rfl, by decide⟩
theorem T_num (d : Nat) (c : Nat) (r : Sg) (h : c ∉ [78, 34, 40, 91]) : T d (c :: r) = numR (c :: r) := by
  simp only [List.mem_cons, List.not_mem_nil, or_false, not_or] at h
  unfold T
  rw [if_neg (by simp [h.1]), if_neg (by simp [h.2.1]), if_neg (by simp [h.2.2])]
theorem rowR_back {T : Sg → Option (D × Nat)} {cl : Nat} (hcl : cl = 41 ∨ cl = 93) (xs : List D) (hh : ∀ x ∈ xs, ∃ c r, flat x = c :: r ∧ c ∈ HEAD) (hT : ∀ x ∈ xs, ∀ rest, Behind rest → T (flat x ++ rest) = some (x, (flat x).length)) (rest : Sg) :
    ∀ n, xs.length < n → rowR T cl n (flats xs ++ (cl :: rest)) = some (xs, (flats xs).length + 1) := by
  induction xs with
  | nil =>
    intro n hn
    obtain ⟨n, rfl⟩ : ∃ j, n = j + 1 := ⟨n - 1, by simp at hn; omega⟩
    unfold rowR
    simp [flats]
  | cons x xs ih =>
    intro n hn
    obtain ⟨n, rfl⟩ : ∃ j, n = j + 1 := ⟨n - 1, by simp at hn; omega⟩
    obtain ⟨c, r, hc, hm⟩ := hh x (List.mem_cons_self ..)
    have hs : flats (x :: xs) ++ (cl :: rest) = flat x ++ (44 :: (flats xs ++ (cl :: rest))) := by simp [flats]
    have ht1 : (flat x ++ (44 :: (flats xs ++ (cl :: rest)))).take 1 = [c] := by rw [hc]; rfl
    have hne : ¬ [c] = [cl] := by
      intro e
      have e : c = cl := by simpa using e
      subst e
      rcases hcl with rfl | rfl
      · exact absurd hm (by decide)
      · exact absurd hm (by decide)
    rw [hs, rowR, ht1, if_neg (by simp), if_neg hne, hT x (List.mem_cons_self ..) _ (.inr ⟨_, rfl⟩)]
    simp only []
    have hd1 : ((flat x ++ (44 :: (flats xs ++ (cl :: rest)))).drop (flat x).length).take 1 = [44] := by simp
    have hd2 : (flat x ++ (44 :: (flats xs ++ (cl :: rest)))).drop ((flat x).length + 1) = flats xs ++ (cl :: rest) := by
      rw [← List.drop_drop, List.drop_left]; rfl
    rw [if_pos hd1, hd2, ih (fun y hy => hh y (List.mem_cons_of_mem _ hy)) (fun y hy => hT y (List.mem_cons_of_mem _ hy)) n (by simp at hn; omega)]
    simp [flats]; omega
theorem flats_ge (xs : List D) : xs.length ≤ (flats xs).length := by
  induction xs with
  | nil => exact Nat.le_refl _
  | cons x xs ih => simp [flats]; omega
/-- a flat word read leads back -/
theorem T_back {d : Nat} {x : D} (h : Thing d x) : ∀ rest, Behind rest → T d (flat x ++ rest) = some (x, (flat x).length) := by
  induction h with
  | leaf d x h =>
    intro rest hr
    rcases h with rfl | ⟨i, rfl, hi⟩ | ⟨s, rfl, hs⟩
    · unfold T
      simp [flat]
    · obtain ⟨h1, h2, h3, h4, h5⟩ := numS_INTS
      simp only [INTS, List.mem_cons, List.not_mem_nil, or_false] at hi
      rcases hi with rfl | rfl | rfl | rfl | rfl
      · rw [flat, h1]
        exact (T_num d 48 rest (by decide)).trans (num_back false [48] rest (by decide) (by decide) hr)
      · rw [flat, h2]
        exact (T_num d 55 rest (by decide)).trans (num_back false [55] rest (by decide) (by decide) hr)
      · rw [flat, h3]
        exact (T_num d 45 (51 :: rest) (by decide)).trans (num_back true [51] rest (by decide) (by decide) hr)
      · rw [flat, h4]
        exact (T_num d 49 (50 :: 48 :: rest) (by decide)).trans (num_back false [49, 50, 48] rest (by decide) (by decide) hr)
      · rw [flat, h5]
        exact (T_num d 49 rest (by decide)).trans (num_back false [49] rest (by decide) (by decide) hr)
    · have hsg := strs_sg s hs
      have hw : flat (.str s) ++ rest = 34 :: (s ++ (34 :: rest)) := by simp [flat]
      have htw : (s ++ (34 :: rest)).takeWhile inSg = s := by
        rw [List.takeWhile_append_of_pos (by simpa using hsg), List.takeWhile_cons_of_neg (by decide), List.append_nil]
      have e78 : ¬ ((34 :: (s ++ (34 :: rest))).take 1 = [78]) := by simp
      have e34 : ((34 :: (s ++ (34 :: rest))).take 1 = [34]) := by simp
      rw [hw]
      unfold T
      rw [if_neg e78, if_pos e34]
      unfold strR
      simp only [List.drop_succ_cons, List.drop_zero]
      rw [htw]
      have hdr : ((34 :: (s ++ (34 :: rest))).drop (1 + s.length)).take 1 = [34] := by
        rw [← List.drop_drop]; simp
      rw [if_pos hdr]
      simp [flat]; omega
  | lst d xs hx hl ih =>
    intro rest hr
    have hw : flat (.lst xs) ++ rest = 91 :: (flats xs ++ (93 :: rest)) := by simp [flat]
    have hrow := rowR_back (T := T d) (cl := 93) (.inr rfl) xs (fun x hxx => flat_head (hx x hxx)) ih rest (91 :: (flats xs ++ (93 :: rest))).length (by have := flats_ge xs; simp; omega)
    rw [hw, T_open d 91 _ (by decide)]
    have e : rowR (T d) (if 91 = 40 then 41 else 93) (91 :: (flats xs ++ (93 :: rest))).length (flats xs ++ (93 :: rest)) = _ := hrow
    rw [e]
    simp [flat]; omega
  | tup d xs hx hl ih =>
    intro rest hr
    have hw : flat (.tup xs) ++ rest = 40 :: (flats xs ++ (41 :: rest)) := by simp [flat]
    have hrow := rowR_back (T := T d) (cl := 41) (.inl rfl) xs (fun x hxx => flat_head (hx x hxx)) ih rest (40 :: (flats xs ++ (41 :: rest))).length (by have := flats_ge xs; simp; omega)
    rw [hw, T_open d 40 _ (by decide)]
    have e : rowR (T d) (if 40 = 40 then 41 else 93) (40 :: (flats xs ++ (41 :: rest))).length (flats xs ++ (41 :: rest)) = _ := hrow
    rw [e]
    simp [flat]; omega
end K85m
namespace K85m
open Pv Pw K85
def NAMES : List Sg := [[97], [98, 50], [122, 122, 57], [97, 97, 97, 97, 97, 97, 97, 97]]
def ABQ : Sg := [32, 97, 98, 34, 124]
def PUTs : Sg := [112, 117, 116, 32]
def Ps : Sg := [32, 112, 32]
def DROPs : Sg := [100, 114, 111, 112, 32]
def CHGs : Sg := [99, 104, 97, 110, 103, 101, 32]
/-- a line of a change -/
def Ln (l : Sg) : Prop := l.length ≤ 3 ∧ ∀ c ∈ l, c ∈ ABQ
/-- a deed by form with its lines -/
inductive Form (d : Nat) : List D → List Sg → Prop
  | put (n : Sg) (x : D) : n ∈ NAMES → Thing d x → Form d [.str PUT, .str n, .str [112], x] [PUTs ++ n ++ Ps ++ flat x]
  | drop (n : Sg) : n ∈ NAMES → Form d [.str DROP, .str n] [DROPs ++ n]
  | chg (ls : List Sg) : ls.length ≤ 3 → (∀ l ∈ ls, Ln l) → Form d [.str CHG, .str (mtext ls)] ((CHGs ++ numS ls.length) :: ls.map fun l => [124] ++ l)
theorem lift_strs {P : Sg → Prop} : ∀ {ys : List D}, (∀ y ∈ ys, ∃ s, y = .str s ∧ P s) → ∃ ss : List Sg, ys = ss.map .str ∧ ∀ s ∈ ss, P s
  | [], _ => ⟨[], rfl, by simp⟩
  | y :: ys, h => by
    obtain ⟨s, rfl, hs⟩ := h y (List.mem_cons_self ..)
    obtain ⟨ss, rfl, hss⟩ := lift_strs (ys := ys) fun z hz => h z (List.mem_cons_of_mem _ hz)
    refine ⟨s :: ss, rfl, ?_⟩
    intro t ht
    rcases List.mem_cons.mp ht with rfl | ht
    · exact hs
    · exact hss t ht
theorem names_len : ∀ n ∈ NAMES, n.length ≤ 8 := by decide
theorem small_numS : ∀ n : Nat, n ≤ 3 → (numS (n : Int)).length ≤ 1 ∧ numS (n : Int) = [48 + n] := by
  intro n hn
  have h : ∀ m ∈ List.range 4, (numS (m : Int)).length ≤ 1 ∧ numS (m : Int) = [48 + m] := by decide +kernel
  exact h n (by simp; omega)
theorem biStrN (S : Store) (n : Nat) (h : n ≤ 3) : biD .str S (.int (n : Int)) = some (.str (numS (n : Int))) := by
  show (if (n : Int).natAbs < 2 ^ 200 then some (D.str (numS (n : Int))) else none) = _
  rw [if_pos]
  exact Nat.lt_of_le_of_lt (show (n : Int).natAbs ≤ 3 by omega) (by decide)
theorem mtext_le {ls : List Sg} {a b : Nat} (h1 : ls.length ≤ a) (h2 : ∀ l ∈ ls, l.length ≤ b) : (mtext ls).length ≤ a * (b + 1) := by
  have : ∀ ls : List Sg, (∀ l ∈ ls, l.length ≤ b) → (mtext ls).length ≤ ls.length * (b + 1) := by
    intro ls
    induction ls with
    | nil => intro _; simp [mtext]
    | cons l ls ih =>
      intro h
      have e1 := h l (List.mem_cons_self ..)
      have e2 := ih fun z hz => h z (List.mem_cons_of_mem _ hz)
      rw [show l :: ls = [l] ++ ls from rfl, mtext_append, List.length_append]
      simp only [List.length_append, List.length_cons, List.length_nil, Nat.add_mul, Nat.one_mul]
      have : (mtext [l]).length = l.length + 1 := by simp [mtext]
      omega
  exact Nat.le_trans (this ls h2) (Nat.mul_le_mul_right _ h1)
def strMap (f : Sg → Sg) : D → D
  | .str s => .str (f s)
  | d => d
theorem map_strMap (f : Sg → Sg) (ls : List Sg) : (ls.map D.str).map (strMap f) = (ls.map f).map .str := by simp [strMap]
theorem flat_ones {P : Nat → Prop} : ∀ {ss : List Sg}, (∀ s ∈ ss, s.length = 1 ∧ ∀ c ∈ s, P c) → ss.flatten.length = ss.length
  | [], _ => rfl
  | s :: ss, h => by
    have h1 := (h s (List.mem_cons_self ..)).1
    have h2 := flat_ones (ss := ss) fun z hz => h z (List.mem_cons_of_mem _ hz)
    rw [List.flatten_cons, List.length_append, h1, h2, List.length_cons]; omega
/-- "".join([l + "\n" for l in ls]) -/
theorem ev_mtext {cf : Cf} {e : Env} {S : Store} {a : Ex} {ls : List Sg} {j : Nat} (hj : j < e.length) (ha : evE cf e false a S = .ok (.lst (ls.map .str)) S) (hl : (mtext ls).length ≤ 100000) :
    evE cf e false (.me .join (.lit (.str [])) (.cons (.lc (.val a) (.nm j) [j] .nil (.bin .add (.var j) (.lit (.str [10])))) .nil)) S = .ok (.str (mtext ls)) S := by
  have hml := mtext_len ls
  have hm := ev_map (cf := cf) (e := e) (S := S) (s := .val a) (j := j) (ex := .bin .add (.var j) (.lit (.str [10]))) (xs := ls.map .str) (w := []) (by rw [evR_val, ha, Ro.bind_ok, walkR_L]) rfl (by rw [List.length_map]; exact Nat.le_trans (Nat.le_trans hml hl) (by decide)) (strMap fun s => s ++ [10]) (fun x hxx => by
    obtain ⟨l, h1, rfl⟩ := List.mem_map.mp hxx
    have hh := mtext_mem h1
    have h2 : ((e.set j none).set j (some (.str l)))[j]? = some (some (.str l)) := by
      have : (e.set j none).length = e.length := by simp
      rw [List.getElem?_set_self (by omega)]
    simp_arith [h2, strMap, opAs _ l [10] (Nat.le_trans (show l.length + 1 ≤ 100001 by omega) (by decide))])
  have hj2 := me_join0 (S := S) (ls.map fun l => l ++ [10]) (Nat.le_trans hl (by decide))
  rw [map_strMap] at hm
  rw [evE_me, tst_f, evE_lit, tst_f, Ro.bind_ok, if_pos (meT_join S [])]
  rw [evEs, hm, Ro.bind_ok, evEs, Ro.bind_ok, Ro.bind_ok, hj2]
  rfl
theorem call_form (k : Nat) (S : Store) (n : Nat) (R : Store) (hS : Str S n R) (hn : n + 40 ≤ LIM) (hk : 7 ≤ k) :
    ∃ (its : List D) (ls : List Sg) (S' : Store), callF pg k 34 [.obj 1] S = .ok (.lst [.tup its, .lst (ls.map .str)]) S' ∧ Form 3 its ls ∧ Str S' (n + 40) R := by
  obtain ⟨k, rfl⟩ : ∃ j, k = j + 3 := ⟨k - 3, by omega⟩
  have hcall := call_lv (P := pg) (k := k + 2) (f := 34) (ds := [.obj 1]) (S := S) ⟨1, 8, false, b__law_mform_0⟩ [some (.obj 1), none, none, none, none, none, none, none] rfl (pures_obj _ _) rfl rfl
  obtain ⟨nm, S1, e1, hnm, hS1⟩ := call_pick k (NAMES.map .str) (by decide) (by decide) S n R hS (by omega)
  obtain ⟨name, hname, rfl⟩ := List.mem_map.mp hnm
  obtain ⟨w, S2, e2, hw, hS2⟩ := call_below (k + 1) 4 (by decide) (by decide) S1 (n + 1) R hS1 (by omega)
  have e2' : callF pg (k + 2) 24 [.obj 1, .int 4] S1 = _ := e2
  have hnl := names_len name hname
  have hrun : evSs (pg.cf (callF pg (k + 2))) b__law_mform_0 [some (.obj 1), none, none, none, none, none, none, none] S = evSs (pg.cf (callF pg (k + 2))) b__law_mform_1 [some (.obj 1), none, some (.str name), some (.int (w : Int)), none, none, none, none] S2 := by
    simp only [NAMES, List.map] at e1
    unfold b__law_mform_0
    simp_arith [e1, e2']
  by_cases hw2 : w < 2
  · have hw2' : ((w : Int) < 2) = True := eq_true (by omega)
    obtain ⟨x, S3, e3, hx, hS3⟩ := call_thing 3 (k + 2) (by omega) S2 (n + 1 + 1) R hS2 (by have : cThing 3 = 30 := rfl; omega)
    have e3' : callF pg (k + 2) 28 [.obj 1, .int 3] S2 = _ := e3
    have hfl := flat_len hx
    have hF3 : FL 3 = 124 := rfl
    refine ⟨_, _, S3, hcall.trans ?_, .put name x hname hx, Str_mono hS3 (by have : cThing 3 = 30 := rfl; omega)⟩
    refine (congrArg (fun r => Ro.bind r endFl) hrun).trans ?_
    unfold b__law_mform_1
    simp_arith [hw2']
    unfold b__law_mform_1a_0
    simp_arith [e3']
    unfold b__law_mform_1a_1
    have hz : ∀ m : Nat, m ≤ 1000 → m ≤ SZ := fun m h => Nat.le_trans h (by decide)
    have a1 := fun S => opAs S [112, 117, 116, 32] name (hz _ (by simp; omega))
    have a2 := fun S => opAs S (PUTs ++ name) [32, 112, 32] (hz _ (by simp [PUTs]; omega))
    have a3 := fun S => opAs S (PUTs ++ name ++ Ps) (flat x) (hz _ (by simp [PUTs, Ps]; omega))
    have a2' : ∀ S, opD .add S (.str (112 :: 117 :: 116 :: 32 :: name)) (.str [32, 112, 32]) = _ := a2
    have a3' : ∀ S, opD .add S (.str (PUTs ++ name ++ [32, 112, 32])) (.str (flat x)) = _ := a3
    simp_arith [a1, a2', a3', call_mflat hx (by decide) (k + 2) (by omega)]
    rfl
  · have hw2' : ((w : Int) < 2) = False := eq_false (by omega)
    have hrun2 : evSs (pg.cf (callF pg (k + 2))) b__law_mform_0 [some (.obj 1), none, none, none, none, none, none, none] S = evSs (pg.cf (callF pg (k + 2))) b__law_mform_2 [some (.obj 1), none, some (.str name), some (.int (w : Int)), none, none, none, none] S2 := by
      rw [hrun]
      unfold b__law_mform_1
      simp_arith [hw2']
    by_cases hw3 : w = 2
    · have hw3' : ((w : Int) = 2) = True := eq_true (by omega)
      refine ⟨_, _, S2, hcall.trans ?_, .drop name hname, Str_mono hS2 (by omega)⟩
      refine (congrArg (fun r => Ro.bind r endFl) hrun2).trans ?_
      unfold b__law_mform_2
      have a1 := fun S => opAs S [100, 114, 111, 112, 32] name (Nat.le_trans (show 5 + name.length ≤ 13 by omega) (by decide))
      simp_arith [hw3', a1]
      rfl
    · have hw3' : ((w : Int) = 2) = False := eq_false (by omega)
      obtain ⟨c, S3, e3, hc, hS3⟩ := call_below (k + 1) 4 (by decide) (by decide) S2 (n + 1 + 1) R hS2 (by omega)
      have e3' : callF pg (k + 2) 24 [.obj 1, .int 4] S2 = _ := e3
      obtain ⟨ys, S4, e4, hl4, hq4, hS4⟩ := lc_draw (b := fun x S => (Ro.opt (bindT (.nm 5) x (wipe [some (.obj 1), none, some (.str name), some (.int (w : Int)), none, none, none, none] [5])) S).bind fun e' S => (evIf (pg.cf (callF pg (k + 2))) e' .nil S).bind fun k_1 S => if k_1 = true then (evE (pg.cf (callF pg (k + 2))) e' false (.me .join (.lit (.str [])) (.cons (.lc (.rng (.call 24 (.cons (.var 0) (.cons (.lit (.int 4)) .nil)))) (.nm 6) [6] .nil (.call 25 (.cons (.var 0) (.cons (.bi .list (.lit (.str [32, 97, 98, 34, 124]))) .nil)))) .nil)) S).bind fun d S => .ok (some d) S else .ok none S) R (fun y => ∃ s, y = .str s ∧ Ln s) 4 (n + 40) (fun x S n' hS hn' => by
          obtain ⟨c5, S5, e5, hc5, hS5⟩ := call_below (k + 1) 4 (by decide) (by decide) S n' R hS (by omega)
          have e5' : callF pg (k + 2) 24 [.obj 1, .int 4] S = _ := e5
          obtain ⟨zs, S6, e6, hl6, hq6, hS6⟩ := lc_draw (b := fun x' S => (Ro.opt (bindT (.nm 6) x' (wipe [some (.obj 1), none, some (.str name), some (.int (w : Int)), none, some x, none, none] [6])) S).bind fun e' S => (evIf (pg.cf (callF pg (k + 2))) e' .nil S).bind fun k_1 S => if k_1 = true then (evE (pg.cf (callF pg (k + 2))) e' false (.call 25 (.cons (.var 0) (.cons (.bi .list (.lit (.str [32, 97, 98, 34, 124]))) .nil))) S).bind fun d S => .ok (some d) S else .ok none S) R (fun y => ∃ s, y = .str s ∧ (s.length = 1 ∧ ∀ c ∈ s, c ∈ ABQ)) 1 LIM (fun x'' S n'' hS hn'' => by
              obtain ⟨y, S7, e7, hy, hS7⟩ := call_pick k (ABQ.map fun c => .str [c]) (by decide) (by decide) S n'' R hS (by omega)
              obtain ⟨c7, hc7, rfl⟩ := List.mem_map.mp hy
              refine ⟨.str [c7], S7, ?_, ⟨[c7], rfl, rfl, by simpa using hc7⟩, hS7⟩
              have hbl : ∀ S, biD .list S (.str [32, 97, 98, 34, 124]) = some (.lst (ABQ.map fun c => .str [c])) := fun S => rfl
              simp_arith [hbl, e7]) ((List.range c5).map fun k => D.int (k : Nat)) S5 (n' + 1) hS5 (by rw [List.length_map, List.length_range]; omega)
          rw [List.length_map, List.length_range] at hl6 hS6
          obtain ⟨ss, rfl, hss⟩ := lift_strs hq6
          rw [List.length_map] at hl6
          have hfl := flat_ones hss
          refine ⟨.str ss.flatten, S6, ?_, ⟨ss.flatten, rfl, by omega, ?_⟩, Str_mono hS6 (by omega)⟩
          · have hj := me_join0 (S := S6) ss (Nat.le_trans (show ss.flatten.length ≤ 4 by omega) (by decide))
            have hlc : evE (pg.cf (callF pg (k + 2))) [some (.obj 1), none, some (.str name), some (.int (w : Int)), none, some x, none, none] false (.lc (.rng (.call 24 (.cons (.var 0) (.cons (.lit (.int 4)) .nil)))) (.nm 6) [6] .nil (.call 25 (.cons (.var 0) (.cons (.bi .list (.lit (.str [32, 97, 98, 34, 124]))) .nil)))) S = .ok (.lst (ss.map .str)) S6 := by
              rw [evE_lc, tst_f, evR_rng (n := c5) (S' := S5) (by simp_arith [e5']) (by omega), Ro.bind_ok, e6, Ro.bind_ok, okL, if_pos (by rw [List.length_map]; exact Nat.le_trans (show ss.length ≤ 4 by omega) (by decide))]
            simp_arith [meT_join, hlc, hj, meR_some]
          · intro a ha
            obtain ⟨s, hs, has⟩ := List.mem_flatten.mp ha
            exact (hss s hs).2 a has) ((List.range c).map fun k => D.int (k : Nat)) S3 (n + 1 + 1 + 1) hS3 (by rw [List.length_map, List.length_range]; omega)
      rw [List.length_map, List.length_range] at hl4 hS4
      obtain ⟨ls, rfl, hls⟩ := lift_strs hq4
      rw [List.length_map] at hl4
      have hls3 : ls.length ≤ 3 := by omega
      have hrun3 : evSs (pg.cf (callF pg (k + 2))) b__law_mform_0 [some (.obj 1), none, none, none, none, none, none, none] S = evSs (pg.cf (callF pg (k + 2))) b__law_mform_4 [some (.obj 1), some (.lst (ls.map .str)), some (.str name), some (.int (w : Int)), none, none, none, none] S4 := by
        rw [hrun2]
        unfold b__law_mform_2
        simp_arith [hw3']
        unfold b__law_mform_3
        rw [evSs_cons, evS_set, evE_lc, tst_f, evR_rng (n := c) (S' := S3) (by simp_arith [e3']) (by omega), Ro.bind_ok, e4, Ro.bind_ok, okL, if_pos (by rw [List.length_map]; exact Nat.le_trans (show ls.length ≤ 4 by omega) (by decide))]
        simp_arith []
      refine ⟨_, _, S4, hcall.trans ?_, .chg ls hls3 hls, Str_mono hS4 (by omega)⟩
      refine (congrArg (fun r => Ro.bind r endFl) hrun3).trans ?_
      have hmt := mtext_le hls3 (fun l hl => (hls l hl).1)
      have h1 := ev_mtext (cf := pg.cf (callF pg (k + 2))) (e := [some (.obj 1), some (.lst (ls.map .str)), some (.str name), some (.int (w : Int)), none, none, none, none]) (S := S4) (a := .var 1) (ls := ls) (j := 7) (by simp) (by simp_arith []) (by omega)
      have h2 := ev_map (cf := pg.cf (callF pg (k + 2))) (e := [some (.obj 1), some (.lst (ls.map .str)), some (.str name), some (.int (w : Int)), none, none, none, none]) (S := S4) (s := .val (.var 1)) (j := 7) (ex := .bin .add (.lit (.str [124])) (.var 7)) (xs := ls.map .str) (w := []) (by simp_arith []) rfl (by rw [List.length_map]; exact Nat.le_trans hls3 (by decide)) (strMap fun s => [124] ++ s) (fun x hxx => by
        obtain ⟨l, hl1, rfl⟩ := List.mem_map.mp hxx
        have := (hls l hl1).1
        simp_arith [strMap, opAs _ [124] l (Nat.le_trans (show 1 + l.length ≤ 4 by omega) (by decide))])
      rw [map_strMap] at h2
      have hns := small_numS ls.length hls3
      have a1 := fun S => opAs S [99, 104, 97, 110, 103, 101, 32] (numS (ls.length : Int)) (Nat.le_trans (show 7 + (numS (ls.length : Int)).length ≤ 8 by omega) (by decide))
      have a2 := fun S => opAl S [.str ([99, 104, 97, 110, 103, 101, 32] ++ numS (ls.length : Int))] ((ls.map fun l => [124] ++ l).map .str) (Nat.le_trans (show 1 + ((ls.map fun l => [124] ++ l).map D.str).length ≤ 4 by simp; omega) (by decide))
      have hlen : ∀ S, biD .len S (.lst (ls.map .str)) = some (.int (ls.length : Int)) := fun S => by rw [lenL, List.length_map]
      unfold b__law_mform_4
      rw [evSs_cons, evS_ret, evE_lst, tst_f, evEs, evE_tup, tst_f, evEs, evE_lit, tst_f, Ro.bind_ok, evEs, h1]
      simp only [List.cons_append, List.nil_append] at a1 a2 h2
      simp_arith [hlen, biStrN _ _ hls3, a1, h2, a2]
      rfl
end K85m
namespace K85m
open Pv Pw K85
/-- a row: a list or a tuple -/
def mkR (b : Bool) (its : List D) : D := match b with
  | true => .lst its
  | false => .tup its
theorem gl4 : pg.gl[4]? = some (.sdc [(PUT, 4), (DROP, 2), (CHG, 2)]) := rfl
theorem pures_mkR (b : Bool) (its : List D) : D.pures [mkR b its] = D.pures its := by cases b <;> simp [mkR, D.pures, D.pure]
theorem isiMk (S : Store) (b : Bool) (its : List D) : isiD S (mkR b its) [.list, .tuple] = some true := by cases b <;> rfl
theorem truMk (S : Store) (b : Bool) (its : List D) : D.truth S (mkR b its) = some (!its.isEmpty) := by cases b <;> rfl
theorem idxMk (S : Store) (b : Bool) (its : List D) (i : Int) : ixD S (mkR b its) (.int i) = atI its i := by cases b <;> rfl
theorem lenMk (S : Store) (b : Bool) (its : List D) : biD .len S (mkR b its) = some (.int its.length) := by cases b <;> rfl
theorem tupMk (S : Store) (b : Bool) (its : List D) : biD .tuple S (mkR b its) = some (.tup its) := by cases b <;> rfl
theorem call_isdeed (k : Nat) (b : Bool) (w : Sg) (r : List D) (n : Nat) (S : Store) (hp : D.pures r = true) (hw : (w = PUT ∧ n = 4) ∨ (w = DROP ∧ n = 2) ∨ (w = CHG ∧ n = 2)) (hl : r.length + 1 = n) :
    callF pg (k + 1) 2 [mkR b (.str w :: r)] S = .ok (.bl true) S := by
  refine call_ok ⟨1, 1, false, b_is_deed_0⟩ [some (mkR b (.str w :: r))] rfl (by cases b <;> simp [mkR, D.pures, D.pure, hp]) rfl rfl ?_ rfl (S' := [])
  have hin : ∀ S, cmD .in_ S (.str w) (.sdc [(PUT, 4), (DROP, 2), (CHG, 2)]) = some true := fun S => by rcases hw with ⟨rfl, _⟩ | ⟨rfl, _⟩ | ⟨rfl, _⟩ <;> rfl
  have hix : ∀ S, ixD S (.sdc [(PUT, 4), (DROP, 2), (CHG, 2)]) (.str w) = some (.int (n : Int)) := fun S => by rcases hw with ⟨rfl, rfl⟩ | ⟨rfl, rfl⟩ | ⟨rfl, rfl⟩ <;> rfl
  have hle : (((r.length + 1 : Nat) : Int) = (n : Int)) = True := eq_true (by omega)
  unfold b_is_deed_0
  simp_arith [isiMk, truMk, idxMk, List.isEmpty_cons]
  unfold b_is_deed_1
  simp_arith [idxMk, gl4, hin, hix, lenMk, hle]
theorem call_islines (k : Nat) (ls : List Sg) (S : Store) (hl : (mtext ls).length ≤ 8000) : callF pg (k + 1) 3 [.str (mtext ls)] S = .ok (.bl true) S := by
  refine call_ok ⟨1, 1, false, b_is_lines⟩ [some (.str (mtext ls))] rfl rfl rfl rfl ?_ rfl (S' := [])
  have h1 : (mtext ls).length ≤ SZ := Nat.le_trans hl (by decide)
  have h2 : (((mtext ls).length : Int) ≤ 8000) = True := eq_true (by omega)
  unfold b_is_lines
  by_cases he : mtext ls = []
  · have d1 : decide (mtext ls = []) = true := decide_eq_true he
    simp_arith [lenS _ _ h1, gl5, h2, d1]
  · have d1 : decide (mtext ls = []) = false := decide_eq_false he
    have hlast : atI (mtext ls) (-1) = some 10 := by
      rw [atI_last _ he]
      congr 1
      have hne : ls ≠ [] := by rintro rfl; exact he rfl
      have e : mtext ls = mtext ls.dropLast ++ (ls.getLast hne ++ [10]) := by
        conv => lhs; rw [← List.dropLast_concat_getLast hne, mtext_append]
        simp [mtext]
      simp only [e]
      simp
    have hneg : (-(1 : Int)) = -1 := rfl
    simp_arith [lenS _ _ h1, gl5, h2, d1, idxS _ _ _ h1, hneg, hlast]
theorem ev_none {cf : Cf} {e : Env} {S : Store} {s : Sr} {j : Nat} {a T : Ex} {xs : List D} {w : List (Nat × List D)} (hR : evR cf e s S = .ok (xs, w) S) (hs : still w S = true)
    (hT : ∀ x ∈ xs, evE cf ((e.set j none).set j (some x)) true T S = .ok (.bl false) S) : evE cf e false (.lc s (.nm j) [j] (.cons T .nil) a) S = .ok (.lst []) S := by
  rw [evE_lc, tst_f, hR, Ro.bind_ok]
  rw [lc_mapw hs (fun _ => none) xs]
  · have : xs.filterMap (fun _ => (none : Option D)) = [] := by
      induction xs <;> simp
    rw [this]; rfl
  · intro x hx
    simp_arith [hT x hx]
theorem eq_nil (S : Store) : cmD .eq S (.lst []) (.lst []) = some true := rfl
theorem call_isflat {d : Nat} {x : D} (h : Thing d x) : ∀ (e k : Nat), d ≤ e → e ≤ 8 → d + 2 ≤ k → ∀ (S : Store), callF pg k 4 [x, .int (e : Int)] S = .ok (.bl true) S := by
  induction h with
  | leaf d x h =>
    intro e k he he8 hk S
    obtain ⟨k, rfl⟩ : ∃ j, k = j + 2 := ⟨k - 2, by omega⟩
    refine call_ok ⟨2, 3, false, b_is_flat_0⟩ [some x, some (.int (e : Int)), none] rfl (by simp [D.pures, (thing_Pd (.leaf 0 x h)).1, D.pure]) rfl rfl ?_ rfl (S' := [])
    rcases h with rfl | ⟨i, rfl, hi⟩ | ⟨s, rfl, hs⟩
    · unfold b_is_flat_0
      simp_arith []
    · have hn := ints_len i hi
      have hst : ∀ S, meD .lstrip S (.str (numS i)) [.str [45]] = some (.str ((numS i).dropWhile (· == 45)), S) := fun S => by
        show (if (numS i).length ≤ SZ then some (D.str ((numS i).dropWhile (· == 45)), S) else none) = _
        rw [if_pos (Nat.le_trans hn (by decide))]
      have hdl : ((numS i).dropWhile (· == 45)).length ≤ 3 := Nat.le_trans (List.dropWhile_sublist _).length_le hn
      have hle : ((((numS i).dropWhile (· == 45)).length : Int) ≤ 9) = True := eq_true (by omega)
      have hmt : ∀ S, meT .lstrip S (.str (numS i)) = true := fun S => rfl
      unfold b_is_flat_0
      simp_arith []
      unfold b_is_flat_1
      simp_arith []
      unfold b_is_flat_2
      simp_arith []
      unfold b_is_flat_3
      simp_arith [biStr _ i hi, hmt, hst, meR_some, lenS _ _ (Nat.le_trans hdl (show 3 ≤ SZ by decide)), gl8, hle]
    · have := strs_len s hs
      have hc := fun S => call_text k s S (by omega) (by
        have : ∀ s ∈ STRS, okStr s = true := by decide
        exact this s hs)
      rw [strs_sg s hs] at hc
      unfold b_is_flat_0
      simp_arith []
      unfold b_is_flat_1
      simp_arith [gl2, gl5, hc]
  | lst d xs hx hl ih =>
    intro e k he he8 hk S
    obtain ⟨k, rfl⟩ : ∃ j, k = j + 1 := ⟨k - 1, by omega⟩
    obtain ⟨e, rfl⟩ : ∃ j, e = j + 1 := ⟨e - 1, by omega⟩
    refine call_ok ⟨2, 3, false, b_is_flat_0⟩ [some (.lst xs), some (.int ((e + 1 : Nat) : Int)), none] rfl (by have hpx := (thing_Pd (.lst d xs hx hl)).1; simp only [D.pure] at hpx; simp [D.pures, D.pure, hpx]) rfl rfl ?_ rfl (S' := [])
    have hgt : ((0 : Int) < ((e + 1 : Nat) : Int)) = True := eq_true (by omega)
    have hsub : ((e + 1 : Nat) : Int) - 1 = (e : Int) := by omega
    have hn := ev_none (cf := pg.cf (callF pg k)) (e := [some (.lst xs), some (.int ((e + 1 : Nat) : Int)), none]) (S := []) (s := .val (.var 0)) (j := 2) (a := .var 2) (T := .not (.call 4 (.cons (.var 2) (.cons (.bin .sub (.var 1) (.lit (.int 1))) .nil)))) (xs := xs) (w := []) (by simp_arith []) rfl (fun x hxx => by
      simp_arith [hsub, ih x hxx e k (by omega) (by omega) (by omega)])
    unfold b_is_flat_0
    simp_arith []
    unfold b_is_flat_1
    simp_arith []
    unfold b_is_flat_2
    simp_arith [hgt, hn, eq_nil]
  | tup d xs hx hl ih =>
    intro e k he he8 hk S
    obtain ⟨k, rfl⟩ : ∃ j, k = j + 1 := ⟨k - 1, by omega⟩
    obtain ⟨e, rfl⟩ : ∃ j, e = j + 1 := ⟨e - 1, by omega⟩
    refine call_ok ⟨2, 3, false, b_is_flat_0⟩ [some (.tup xs), some (.int ((e + 1 : Nat) : Int)), none] rfl (by have hpx := (thing_Pd (.tup d xs hx hl)).1; simp only [D.pure] at hpx; simp [D.pures, D.pure, hpx]) rfl rfl ?_ rfl (S' := [])
    have hgt : ((0 : Int) < ((e + 1 : Nat) : Int)) = True := eq_true (by omega)
    have hsub : ((e + 1 : Nat) : Int) - 1 = (e : Int) := by omega
    have hn := ev_none (cf := pg.cf (callF pg k)) (e := [some (.tup xs), some (.int ((e + 1 : Nat) : Int)), none]) (S := []) (s := .val (.var 0)) (j := 2) (a := .var 2) (T := .not (.call 4 (.cons (.var 2) (.cons (.bin .sub (.var 1) (.lit (.int 1))) .nil)))) (xs := xs) (w := []) (by simp_arith []) rfl (fun x hxx => by
      simp_arith [hsub, ih x hxx e k (by omega) (by omega) (by omega)])
    unfold b_is_flat_0
    simp_arith []
    unfold b_is_flat_1
    simp_arith []
    unfold b_is_flat_2
    simp_arith [hgt, hn, eq_nil]
theorem names_ok : ∀ n ∈ NAMES, n.length ≤ 8000 ∧ okStr n = true ∧ nameB n = true := by decide
theorem form_pures {d : Nat} {its : List D} {ls : List Sg} (h : Form d its ls) : D.pures its = true := by
  cases h with
  | put n x hn hx => simp [D.pures, D.pure, (thing_Pd hx).1]
  | drop n hn => rfl
  | chg ls _ _ => rfl
theorem form_chg_len {ls : List Sg} (h3 : ls.length ≤ 3) (hl : ∀ l ∈ ls, Ln l) : (mtext ls).length ≤ 12 := mtext_le h3 fun l h => (hl l h).1
theorem call_plain {d : Nat} {its : List D} {ls : List Sg} (h : Form d its ls) (hd : d ≤ 8) (b : Bool) (k : Nat) (hk : d + 4 ≤ k) (S : Store) : callF pg k 9 [mkR b its] S = .ok (.tup its) S := by
  obtain ⟨k, rfl⟩ : ∃ j, k = j + 2 := ⟨k - 2, by omega⟩
  have hp := form_pures h
  refine call_ok ⟨1, 1, false, b_plain_deed_0⟩ [some (mkR b its)] rfl (by simp [pures_mkR, hp]) rfl rfl ?_ (by simpa [D.pure] using hp) (S' := [])
  cases h with
  | put n x hn hx =>
    obtain ⟨n1, n2, n3⟩ := names_ok n hn
    have hde := fun S => call_isdeed k b PUT [.str n, .str [112], x] 4 S (by simpa [D.pures, D.pure] using hp) (.inl ⟨rfl, rfl⟩) rfl
    have hn1 := fun S => call_name k n S n1 n2
    have hn2 := fun S => call_name k [112] S (by decide) (by decide)
    have hnp : nameB [112] = true := by decide
    have hf := fun S => call_isflat hx 8 (k + 1) (by omega) (by decide) (by omega) S
    rw [n3] at hn1
    rw [hnp] at hn2
    have hf' : ∀ S, callF pg (k + 1) 4 [x, .int 8] S = .ok (.bl true) S := hf
    have d1 : decide (PUT = [99, 104, 97, 110, 103, 101]) = false := by decide
    have d2 : decide (PUT = [112, 117, 116]) = true := by decide
    unfold b_plain_deed_0
    simp_arith [hde]
    unfold b_plain_deed_1
    simp_arith [idxMk, d1]
    unfold b_plain_deed_2
    simp_arith [idxMk, hn1, d2, hn2, gl7, hf']
    unfold b_plain_deed_3
    simp_arith [tupMk]
  | drop n hn =>
    obtain ⟨n1, n2, n3⟩ := names_ok n hn
    have hde := fun S => call_isdeed k b DROP [.str n] 2 S rfl (.inr (.inl ⟨rfl, rfl⟩)) rfl
    have hn1 := fun S => call_name k n S n1 n2
    rw [n3] at hn1
    have d1 : decide (DROP = [99, 104, 97, 110, 103, 101]) = false := by decide
    have d2 : decide (DROP = [112, 117, 116]) = false := by decide
    unfold b_plain_deed_0
    simp_arith [hde]
    unfold b_plain_deed_1
    simp_arith [idxMk, d1]
    unfold b_plain_deed_2
    simp_arith [idxMk, hn1, d2]
    unfold b_plain_deed_3
    simp_arith [tupMk]
  | chg ls h3 hl =>
    have hde := fun S => call_isdeed k b CHG [.str (mtext ls)] 2 S rfl (.inr (.inr ⟨rfl, rfl⟩)) rfl
    have hli := fun S => call_islines k ls S (by have := form_chg_len h3 hl; omega)
    have d1 : decide (CHG = [99, 104, 97, 110, 103, 101]) = true := by decide
    unfold b_plain_deed_0
    simp_arith [hde]
    unfold b_plain_deed_1
    simp_arith [idxMk, d1, hli, tupMk]
theorem me_joinT {S : Store} (s : Sg) (ls : List Sg) (h : (ls.map List.length).sum + ls.length * s.length ≤ SZ) : meD .join S (.str s) [.tup (ls.map .str)] = some (.str (joinS s ls), S) := by
  show (match (some (ls.map D.str)).bind strsOf with
      | some ys => if (ys.map List.length).sum + ys.length * s.length ≤ SZ then some (D.str (joinS s ys), S) else none
      | none => none) = _
  rw [Option.bind_some, strsOf_map]
  simp only [if_pos h]
theorem split_mtext (ls : List Sg) (h : ∀ l ∈ ls, ∀ c ∈ l, c ≠ 10) : splitC 10 [] (mtext ls) = ls ++ [[]] := by
  have one : ∀ (l : Sg) (acc r : Sg), (∀ c ∈ l, c ≠ 10) → splitC 10 acc (l ++ 10 :: r) = (acc ++ l) :: splitC 10 [] r := by
    intro l
    induction l with
    | nil => intro acc r _; simp [splitC]
    | cons c l ih =>
      intro acc r hl
      have hc := hl c (List.mem_cons_self ..)
      rw [List.cons_append, splitC, if_neg hc, ih _ _ fun x hx => hl x (List.mem_cons_of_mem _ hx)]
      simp
  induction ls with
  | nil => rfl
  | cons l ls ih =>
    rw [show mtext (l :: ls) = l ++ 10 :: mtext ls by simp [mtext], one l [] _ (h l (List.mem_cons_self ..)), ih fun x hx => h x (List.mem_cons_of_mem _ hx)]
    simp
theorem ln_10 {l : Sg} (h : Ln l) : ∀ c ∈ l, c ≠ 10 := by
  intro c hc
  have := h.2 c hc
  have h2 : ∀ c ∈ ABQ, c ≠ 10 := by decide
  exact h2 c this
theorem call_dlines {d : Nat} {its : List D} {ls : List Sg} (h : Form d its ls) (hd : d ≤ 8) (k : Nat) (hk : d + 4 ≤ k) (S : Store) : callF pg k 10 [.tup its] S = .ok (.lst (ls.map .str)) S := by
  obtain ⟨k, rfl⟩ : ∃ j, k = j + 2 := ⟨k - 2, by omega⟩
  have hp := form_pures h
  refine call_ok ⟨1, 3, false, b_deed_lines_0⟩ [some (.tup its), none, none] rfl (by simp [D.pures, D.pure, hp]) rfl rfl ?_ (by have := (Pd_strs ls).1; simpa [D.pure] using this) (S' := [])
  have hz : ∀ m : Nat, m ≤ 100000 → m ≤ SZ := fun m h => Nat.le_trans h (by decide)
  cases h with
  | put n x hn hx =>
    have hnl := names_len n hn
    have hfl := flat_len hx
    have h8 : FL d ≤ 5000 := Nat.le_trans (FL_mono hd) FL_8
    have hj := fun S => me_join (S := S) [32] [PUT, n, [112], flat x] (hz _ (by simp [PUT]; omega))
    have hj' : ∀ S, meD .join S (.str [32]) [.lst [.str [112, 117, 116], .str n, .str [112], .str (flat x)]] = some (.str (joinS [32] [PUT, n, [112], flat x]), S) := hj
    have he : joinS [32] [PUT, n, [112], flat x] = PUTs ++ n ++ Ps ++ flat x := by simp [joinS, PUT, PUTs, Ps]
    rw [he] at hj'
    have d2 : decide (PUT = [112, 117, 116]) = true := by decide
    unfold b_deed_lines_0
    simp_arith [d2, call_flat hx (by omega) (k + 1) (by omega), meT_join, hj', meR_some]
  | drop n hn =>
    have hnl := names_len n hn
    have hj := fun S => me_joinT (S := S) [32] [DROP, n] (hz _ (by simp [DROP]; omega))
    have hj' : ∀ S, meD .join S (.str [32]) [.tup [.str DROP, .str n]] = some (.str (joinS [32] [DROP, n]), S) := hj
    have he : joinS [32] [DROP, n] = DROPs ++ n := by simp [joinS, DROP, DROPs]
    rw [he] at hj'
    have d1 : decide (DROP = [112, 117, 116]) = false := by decide
    have d2 : decide (DROP = [100, 114, 111, 112]) = true := by decide
    unfold b_deed_lines_0
    simp_arith [d1]
    unfold b_deed_lines_1
    simp_arith [d2, meT_join, hj', meR_some]
  | chg ls h3 hl =>
    have hml := form_chg_len h3 hl
    have d1 : decide (CHG = [112, 117, 116]) = false := by decide
    have d2 : decide (CHG = [100, 114, 111, 112]) = false := by decide
    have hsp := fun S => me_split (S := S) 10 (mtext ls) (hz _ (by omega)) (by decide)
    rw [split_mtext ls fun l h => ln_10 (hl l h)] at hsp
    have hneg : (-(1 : Int)) = -1 := rfl
    have hdl : ((ls ++ [[]]).map D.str).dropLast = ls.map .str := by simp
    have hns := small_numS ls.length h3
    have hlen : ∀ S, biD .len S (.lst (ls.map .str)) = some (.int (ls.length : Int)) := fun S => by rw [lenL, List.length_map]
    have hj := fun S => me_join (S := S) [32] [CHG, numS (ls.length : Int)] (hz _ (by simp [CHG]; omega))
    have hj' : ∀ S, meD .join S (.str [32]) [.lst [.str [99, 104, 97, 110, 103, 101], .str (numS (ls.length : Int))]] = some (.str (joinS [32] [CHG, numS (ls.length : Int)]), S) := hj
    have he : joinS [32] [CHG, numS (ls.length : Int)] = CHGs ++ numS (ls.length : Int) := by simp [joinS, CHG, CHGs]
    rw [he] at hj'
    have h2 := ev_map (cf := pg.cf (callF pg (k + 1))) (e := [some (.tup [.str CHG, .str (mtext ls)]), some (.lst (ls.map .str)), none]) (S := []) (s := .val (.var 1)) (j := 2) (ex := .bin .add (.glb 6) (.var 2)) (xs := ls.map .str) (w := []) (by simp_arith []) rfl (by rw [List.length_map]; exact Nat.le_trans h3 (by decide)) (strMap fun s => [124] ++ s) (fun x hxx => by
        obtain ⟨l, hl1, rfl⟩ := List.mem_map.mp hxx
        have := (hl l hl1).1
        simp_arith [gl6, strMap, opAs _ [124] l (Nat.le_trans (show 1 + l.length ≤ 4 by omega) (by decide))])
    rw [map_strMap] at h2
    have a2 := fun S => opAl S [.str (CHGs ++ numS (ls.length : Int))] ((ls.map fun l => [124] ++ l).map .str) (Nat.le_trans (show 1 + ((ls.map fun l => [124] ++ l).map D.str).length ≤ 4 by simp; omega) (by decide))
    unfold b_deed_lines_0
    simp_arith [d1]
    unfold b_deed_lines_1
    simp_arith [d2]
    unfold b_deed_lines_2
    simp_arith [meT_split, hsp, meR_some, hneg, hdl]
    unfold b_deed_lines_3
    simp only [List.cons_append, List.nil_append] at a2 h2
    simp_arith [hlen, biStrN _ _ h3, meT_join, hj', meR_some, h2, a2]
end K85m
namespace K85m
open Pv Pw K85
theorem ev_mtextR {cf : Cf} {e : Env} {S : Store} {a : Ex} {ls : List Sg} {j : Nat} {w : List (Nat × List D)} (hj : j < e.length) (hR : evR cf e (.val a) S = .ok (ls.map .str, w) S) (hs : still w S = true) (hl : (mtext ls).length ≤ 100000) :
    evE cf e false (.me .join (.lit (.str [])) (.cons (.lc (.val a) (.nm j) [j] .nil (.bin .add (.var j) (.lit (.str [10])))) .nil)) S = .ok (.str (mtext ls)) S := by
  have hml := mtext_len ls
  have hm := ev_map (cf := cf) (e := e) (S := S) (s := .val a) (j := j) (ex := .bin .add (.var j) (.lit (.str [10]))) (xs := ls.map .str) (w := w) hR hs (by rw [List.length_map]; exact Nat.le_trans (Nat.le_trans hml hl) (by decide)) (strMap fun s => s ++ [10]) (fun x hxx => by
    obtain ⟨l, h1, rfl⟩ := List.mem_map.mp hxx
    have hh := mtext_mem h1
    have h2 : ((e.set j none).set j (some (.str l)))[j]? = some (some (.str l)) := by
      have : (e.set j none).length = e.length := by simp
      rw [List.getElem?_set_self (by omega)]
    simp_arith [h2, strMap, opAs _ l [10] (Nat.le_trans (show l.length + 1 ≤ 100001 by omega) (by decide))])
  have hj2 := me_join0 (S := S) (ls.map fun l => l ++ [10]) (Nat.le_trans hl (by decide))
  rw [map_strMap] at hm
  rw [evE_me, tst_f, evE_lit, tst_f, Ro.bind_ok, if_pos (meT_join S [])]
  rw [evEs, hm, Ro.bind_ok, evEs, Ro.bind_ok, Ro.bind_ok, hj2]
  rfl
/-- the lines of rows of forms -/
def linesOf (fs : List (List D × List Sg)) : List Sg := (fs.map fun f => f.2).flatten
abbrev dtE (A : D) (v2 v3 v4 : Option D) : Env := [some A, some (.obj 0), v2, v3, v4, none]
abbrev dtF (k : Nat) (xs : List D) (e : Env) (S : Store) : Ro Fl := forR (pg.cf (callF pg k)) (.tp [2, 3]) b_deeds_text_2a_0 e (xs, []) S
theorem dt_loop (k d : Nat) (hd : d ≤ 8) (hk : d + 4 ≤ k) (A : D) (b : Bool) (rest : List D) : ∀ (fs : List (List D × List Sg)) (n : Nat) (acc : List Sg) (v2 v3 v4 : Option D), (∀ f ∈ fs, Form d f.1 f.2) → acc.length + (linesOf fs).length ≤ 100000 →
    ∃ v2' v3' v4', dtF k (pairs n (fs.map (fun f => mkR b f.1) ++ rest)) (dtE A v2 v3 v4) [.lst (acc.map .str)] = dtF k (pairs (n + fs.length) rest) (dtE A v2' v3' v4') [.lst ((acc ++ linesOf fs).map .str)]
  | [], n, acc, v2, v3, v4, hf, hl => ⟨v2, v3, v4, by simp [linesOf]⟩
  | f :: fs, n, acc, v2, v3, v4, hf, hl => by
    have h1 := hf f (List.mem_cons_self ..)
    have hlo : linesOf (f :: fs) = f.2 ++ linesOf fs := by simp [linesOf]
    rw [hlo, List.length_append] at hl
    obtain ⟨a2, a3, a4, ih⟩ := dt_loop k d hd hk A b rest fs (n + 1) (acc ++ f.2) (some (.int (n : Int))) (some (mkR b f.1)) (some (.tup f.1)) (fun g hg => hf g (List.mem_cons_of_mem _ hg)) (by simp; omega)
    refine ⟨a2, a3, a4, ?_⟩
    have hstep : dtF k (pairs n ((f :: fs).map (fun f => mkR b f.1) ++ rest)) (dtE A v2 v3 v4) [.lst (acc.map .str)] = dtF k (pairs (n + 1) (fs.map (fun f => mkR b f.1) ++ rest)) (dtE A (some (.int (n : Int))) (some (mkR b f.1)) (some (.tup f.1))) [.lst ((acc ++ f.2).map .str)] := by
      refine for_next ?_ rfl
      have hp := fun S => call_plain h1 hd b k hk S
      have hdl := fun S => call_dlines h1 hd k hk S
      have hS : ([.lst (acc.map D.str)] : Store)[0]? = some (.lst (acc.map .str)) := rfl
      have hx := me_ext (S := [.lst (acc.map D.str)]) (n := 0) (.lst (f.2.map .str)) hS (ys := f.2.map .str) rfl (by simp only [List.length_map]; exact Nat.le_trans (show acc.length + f.2.length ≤ 100000 by omega) (by decide))
      unfold b_deeds_text_2a_0
      simp_arith [hp]
      unfold b_deeds_text_2a_1
      simp_arith []
      unfold b_deeds_text_2a_2
      simp_arith [meT_ext hS, hdl, hx, meR_some, List.map_append]
    rw [hstep, ih, hlo]
    simp only [List.append_assoc, List.length_cons]
    rw [show n + 1 + fs.length = n + (fs.length + 1) by omega]
theorem dt_head (k : Nat) (b : Bool) (xs : List D) : evSs (pg.cf (callF pg k)) b_deeds_text_0 [some (mkR b xs), none, none, none, none, none] [] = (dtF k (pairs 0 xs) (dtE (mkR b xs) none none none) [.lst []]).bind fun fl S => flow fl S fun e S => evSs (pg.cf (callF pg k)) b_deeds_text_3 e S := by
  unfold b_deeds_text_0
  simp_arith [isiMk]
  unfold b_deeds_text_1
  simp_arith []
  unfold b_deeds_text_2
  rw [evSs_cons, evS_for]
  have hev : evR (pg.cf (callF pg k)) [some (mkR b xs), some (.obj 0), none, none, none, none] (.enm (.var 0)) [.lst []] = .ok (pairs 0 xs, []) [.lst []] := by
    rw [evR]
    cases b <;> simp_arith [D.row, D.items, D.watch, mkR]
  rw [hev]
  rfl
/-- the text of a row of forms -/
theorem call_dtext (k d : Nat) (hd : d ≤ 8) (hk : d + 4 ≤ k) (b c : Bool) (fs : List (List D × List Sg)) (hf : ∀ f ∈ fs, Form d f.1 f.2) (hl : (mtext (linesOf fs)).length ≤ 100000) (S : Store) :
    callF pg (k + 1) 11 [mkR c (fs.map fun f => mkR b f.1)] S = .ok (.str (mtext (linesOf fs))) S := by
  have hml := mtext_len (linesOf fs)
  have hps : D.pures (fs.map fun f => mkR b f.1) = true := by
    clear hl hml
    induction fs with
    | nil => rfl
    | cons f fs ih =>
      have h1 := form_pures (hf f (List.mem_cons_self ..))
      have h2 := ih fun g hg => hf g (List.mem_cons_of_mem _ hg)
      have h3 := pures_mkR b f.1
      simp only [D.pures, Bool.and_true] at h3
      simp [D.pures, h2, h3, h1]
  obtain ⟨v2, v3, v4, hloop⟩ := dt_loop k d hd hk (mkR c (fs.map fun f => mkR b f.1)) b [] fs 0 [] none none none hf (by simp; omega)
  rw [List.append_nil, List.nil_append] at hloop
  refine call_ok ⟨1, 6, false, b_deeds_text_0⟩ [some (mkR c (fs.map fun f => mkR b f.1)), none, none, none, none, none] rfl (by rw [pures_mkR]; simp [hps]) rfl rfl ?_ rfl (S' := [.lst ((linesOf fs).map .str)])
  refine (congrArg (fun r => Ro.bind r endFl) (dt_head k c _)).trans ?_
  have hloop' : dtF k (pairs 0 (fs.map fun f => mkR b f.1)) (dtE (mkR c (fs.map fun f => mkR b f.1)) none none none) [.lst []] = .ok (.nx (dtE (mkR c (fs.map fun f => mkR b f.1)) v2 v3 v4)) [.lst ((linesOf fs).map .str)] := hloop
  rw [hloop', Ro.bind_ok, flow_nx]
  have hm := ev_mtextR (cf := pg.cf (callF pg k)) (e := dtE (mkR c (fs.map fun f => mkR b f.1)) v2 v3 v4) (S := [.lst ((linesOf fs).map .str)]) (a := .var 1) (ls := linesOf fs) (j := 5) (w := [(0, (linesOf fs).map .str)]) (by simp) (by simp_arith [walkR_obj (S := [.lst ((linesOf fs).map .str)]) (n := 0) rfl]) (still_one rfl) hl
  unfold b_deeds_text_3
  rw [evSs_cons, evS_ret, hm]
  simp_arith []
/-- the first that is no deed -/
theorem call_dodd (k d : Nat) (hd : d ≤ 8) (hk : d + 4 ≤ k) (fs : List (List D × List Sg)) (hf : ∀ f ∈ fs, Form d f.1 f.2) (hl : (linesOf fs).length ≤ 100000) (odd : D) (rest : List D) (ho : ∀ S, callF pg k 9 [odd] S = .ok .non S) (hp : D.pures (fs.map (fun f => .tup f.1) ++ odd :: rest) = true) (S : Store) :
    callF pg (k + 1) 11 [.lst (fs.map (fun f => .tup f.1) ++ odd :: rest)] S = .err 0 [.int (fs.length : Int)] S := by
  obtain ⟨v2, v3, v4, hloop⟩ := dt_loop k d hd hk (mkR true (fs.map (fun f => .tup f.1) ++ odd :: rest)) false (odd :: rest) fs 0 [] none none none hf (by simp; omega)
  rw [call_pure ⟨1, 6, false, b_deeds_text_0⟩ rfl (by simp [D.pures, D.pure, hp]), runB_eq _ _ _ _ rfl]
  have hrun : (evSs (pg.cf (callF pg k)) b_deeds_text_0 [some (mkR true (fs.map (fun f => .tup f.1) ++ odd :: rest)), none, none, none, none, none] []).bind endFl = .err 0 [.int (fs.length : Int)] [.lst ((linesOf fs).map .str)] := by
    refine (congrArg (fun r => Ro.bind r endFl) (dt_head k true _)).trans ?_
    have hloop' : dtF k (pairs 0 (fs.map (fun f => .tup f.1) ++ odd :: rest)) (dtE (mkR true (fs.map (fun f => .tup f.1) ++ odd :: rest)) none none none) [.lst []] = dtF k (pairs fs.length (odd :: rest)) (dtE (mkR true (fs.map (fun f => .tup f.1) ++ odd :: rest)) v2 v3 v4) [.lst ((linesOf fs).map .str)] := by
      have := hloop
      rw [Nat.zero_add, List.nil_append] at this
      exact this
    rw [hloop']
    have hbody : dtF k (pairs fs.length (odd :: rest)) (dtE (mkR true (fs.map (fun f => .tup f.1) ++ odd :: rest)) v2 v3 v4) [.lst ((linesOf fs).map .str)] = .err 0 [.int (fs.length : Int)] [.lst ((linesOf fs).map .str)] := by
      show forLoop _ _ (D.tup [.int (fs.length : Int), odd] :: _) _ _ = _
      unfold b_deeds_text_2a_0
      rw [forLoop]
      simp_arith [ho]
      unfold b_deeds_text_2a_1
      simp_arith []
    rw [hbody]
    rfl
  exact (congrArg (fun r => done r S) hrun).trans rfl
/-- what is no row -/
theorem call_dnone (k : Nat) (x : D) (hp : x.pure = true) (hx : ∀ S, isiD S x [.list, .tuple] = some false) (S : Store) : callF pg (k + 1) 11 [x] S = .err 0 [.int 0] S := by
  rw [call_pure ⟨1, 6, false, b_deeds_text_0⟩ rfl (by simp [D.pures, hp]), runB_eq _ _ _ _ rfl]
  have hrun : (evSs (pg.cf (callF pg k)) b_deeds_text_0 [some x, none, none, none, none, none] []).bind endFl = .err 0 [.int 0] [] := by
    unfold b_deeds_text_0
    simp_arith [hx]
  exact (congrArg (fun r => done r S) hrun).trans rfl
/-- a text that is none -/
theorem call_lnone (k : Nat) (x : D) (hp : x.pure = true) (hx : ∀ S, isiD S x [.str] = some false) (S : Store) : callF pg (k + 2) 18 [x] S = .ok (.tup [.lst [], .int 0]) S := by
  refine call_ok ⟨1, 5, false, b_lines_read_0⟩ [some x, none, none, none, none] rfl (by simp [D.pures, hp]) rfl rfl ?_ rfl (S' := rS 0 [] 0 [.lst []])
  have hini : callF pg (k + 1) (pg.init 0) [.obj 0] [.ins 0 []] = .ok .non (rS 0 [] 0 [.lst []]) := init_ok k
  unfold b_lines_read_0
  simp_arith [hini, nonB]
  unfold b_lines_read_1
  simp_arith [hx]
theorem call_fnone (k : Nat) (x : D) (hp : x.pure = true) (hx : ∀ S, isiD S x [.str] = some false) (S : Store) : callF pg (k + 3) 19 [x] S = .ok (.int 0) S := by
  have h := fun S => call_lnone k x hp hx S
  refine call_ok ⟨1, 1, false, b_deeds_fault⟩ [some x] rfl (by simp [D.pures, hp]) rfl rfl ?_ rfl (S' := [])
  unfold b_deeds_fault
  simp_arith [h]
theorem call_rnone (k : Nat) (x : D) (hp : x.pure = true) (hx : ∀ S, isiD S x [.str] = some false) (S : Store) : callF pg (k + 3) 20 [x] S = .err 1 [.int 0] S := by
  have h := fun S => call_lnone k x hp hx S
  rw [call_pure ⟨1, 3, false, b_read_deeds_0⟩ rfl (by simp [D.pures, hp]), runB_eq _ _ _ _ rfl]
  have : (evSs (pg.cf (callF pg (k + 2))) b_read_deeds_0 [some x, none, none] []).bind endFl = .err 1 [.int 0] [] := by
    unfold b_read_deeds_0
    simp_arith [h]
    unfold b_read_deeds_1
    simp_arith []
  exact (congrArg (fun r => done r S) this).trans rfl
end K85m
namespace K85m
open Pv Pw K85
theorem deeps_mem {xs : List D} {x : D} (h : x ∈ xs) : x.deep ≤ D.deeps xs := by
  induction xs with
  | nil => cases h
  | cons y ys ih =>
    simp only [D.deeps]
    (rcases List.mem_cons.mp h with rfl | h)
    · omega
    · have := ih h; omega
theorem seens_mem {xs : List D} {x : D} (hs : D.seens xs = true) (h : x ∈ xs) : x.seen = true := by
  induction xs with
  | nil => cases h
  | cons y ys ih =>
    simp only [D.seens, Bool.and_eq_true] at hs
    (rcases List.mem_cons.mp h with rfl | h)
    · exact hs.1
    · exact ih hs.2 h
mutual
theorem seen_pure : ∀ x : D, x.seen = true → x.pure = true
  | .lst xs, h => by simp only [D.pure]; exact seens_pure xs (by simpa [D.seen] using h)
  | .tup xs, h => by simp only [D.pure]; exact seens_pure xs (by simpa [D.seen] using h)
  | .obj _, h => by simp [D.seen] at h
  | .non, _ | .bl _, _ | .int _, _ | .str _, _ | .scr _, _ | .sdc _, _ | .edc, _ => rfl
theorem seens_pure : ∀ xs : List D, D.seens xs = true → D.pures xs = true
  | [], _ => rfl
  | x :: xs, h => by
    simp only [D.seens, Bool.and_eq_true] at h
    simp only [D.pures, seen_pure x h.1, seens_pure xs h.2, Bool.and_self]
end
theorem zip_mem : ∀ {xs : List D} {p : D}, p ∈ zipD xs xs → ∃ x ∈ xs, p = .tup [x, x]
  | [], p, h => by cases h
  | x :: xs, p, h => by
    (rcases List.mem_cons.mp h with rfl | h)
    · exact ⟨x, List.mem_cons_self .., rfl⟩
    · obtain ⟨y, hy, e⟩ := zip_mem h
      (exact ⟨y, List.mem_cons_of_mem _ hy, e⟩)
theorem zip_len : ∀ xs : List D, (zipD xs xs).length = xs.length
  | [] => rfl
  | x :: xs => by simp [zipD, zip_len xs]
theorem all_true (S : Store) (n : Nat) : biD .all S (.lst (List.replicate n (.bl true))) = some (.bl true) := by
  have h : blsOf (List.replicate n (.bl true)) = some (List.replicate n true) := by
    induction n with
    | zero => rfl
    | succ n ih => simp [List.replicate_succ, blsOf, ih]
  show ((some (List.replicate n (D.bl true))).bind blsOf).map _ = _
  rw [Option.bind_some, h, Option.map_some]
  simp
def SameOk (k : Nat) (x : D) : Prop := ∀ S, callF pg k 27 [x, x] S = .ok (.bl true) S
/-- rows of the same things -/
theorem same_rows (k : Nat) (xs : List D) (hx : ∀ x ∈ xs, SameOk k x) (hl : xs.length ≤ SZ) (e : Env) (he : e.length = 4) (S : Store) (w : List (Nat × List D)) (hR : evR (pg.cf (callF pg k)) e (.zip (.var 0) (.var 1)) S = .ok (zipD xs xs, w) S) (hs : still w S = true) :
    evE (pg.cf (callF pg k)) e false (.lc (.zip (.var 0) (.var 1)) (.tp [2, 3]) [2, 3] .nil (.call 27 (.cons (.var 2) (.cons (.var 3) .nil)))) S = .ok (.lst (List.replicate xs.length (.bl true))) S := by
  obtain ⟨a0, a1, a2, a3, rfl⟩ : ∃ a0 a1 a2 a3, e = [a0, a1, a2, a3] := by
    match e, he with
    | [a0, a1, a2, a3], _ => exact ⟨a0, a1, a2, a3, rfl⟩
  rw [evE_lc, tst_f, hR, Ro.bind_ok, lc_mapw hs (fun _ => some (.bl true))]
  · rw [Ro.bind_ok, okL, show (fun (_ : D) => some (D.bl true)) = (fun x => some ((fun _ => D.bl true) x)) from rfl, List.filterMap_eq_map', List.map_const', zip_len, if_pos (by simpa using hl)]
  · intro p hp
    obtain ⟨x, hxx, rfl⟩ := zip_mem hp
    simp_arith [hx x hxx S]
mutual
/-- rows of a length that is spoken of -/
def Short : D → Prop
  | .lst xs => xs.length ≤ SZ ∧ Shorts xs
  | .tup xs => xs.length ≤ SZ ∧ Shorts xs
  | _ => True
def Shorts : List D → Prop
  | [] => True
  | x :: xs => Short x ∧ Shorts xs
end
theorem shorts_mem {xs : List D} {x : D} (hs : Shorts xs) (h : x ∈ xs) : Short x := by
  induction xs with
  | nil => cases h
  | cons y ys ih =>
    simp only [Shorts] at hs
    (rcases List.mem_cons.mp h with rfl | h)
    · exact hs.1
    · exact ih hs.2 h
/-- the same things are told the same -/
theorem call_same : ∀ (n : Nat) (x : D), x.deep ≤ n → x.seen = true → Short x → ∀ (k : Nat), n + 1 ≤ k → SameOk k x
  | n, x, hd, hs, hsh, 0, hk => by omega
  | n, x, hd, hs, hsh, k + 1, hk => fun S => by
    have hp := seen_pure x hs
    refine call_ok ⟨2, 4, false, b__law_same_0⟩ [some x, some x, none, none] rfl (by simp [D.pures, hp]) rfl rfl ?_ rfl (S' := [])
    unfold b__law_same_0
    match x, n, hd, hs, hsh with
    | .non, n, _, _, _ =>
      simp_arith []
      unfold b__law_same_1
      simp_arith []
      unfold b__law_same_2
      simp_arith []
      unfold b__law_same_3
      simp_arith []
    | .bl b, n, _, _, _ =>
      simp_arith []
      unfold b__law_same_1
      simp_arith []
      unfold b__law_same_2
      cases b <;> simp_arith [] <;> rfl
    | .int i, n, _, _, _ =>
      simp_arith []
      unfold b__law_same_1
      simp_arith []
      unfold b__law_same_2
      simp_arith []
      rfl
    | .str s, n, _, _, _ =>
      simp_arith []
      unfold b__law_same_1
      simp_arith []
      unfold b__law_same_2
      simp_arith []
      unfold b__law_same_3
      simp_arith []
      unfold b__law_same_4
      simp_arith []
    | .lst xs, 0, hd, _, _ => simp [D.deep] at hd
    | .tup xs, 0, hd, _, _ => simp [D.deep] at hd
    | .lst xs, n + 1, hd, hs, hsh =>
      have hs' : D.seens xs = true := by simpa [D.seen] using hs
      have hd' : D.deeps xs ≤ n := by simpa [D.deep] using hd
      have hr := same_rows k xs (fun y hy => call_same n y (Nat.le_trans (deeps_mem hy) hd') (seens_mem hs' hy) (shorts_mem hsh.2 hy) k (by omega)) hsh.1 [some (.lst xs), some (.lst xs), none, none] rfl [] [] (by rw [evR]; simp_arith [D.items, D.watch]) rfl
      simp_arith []
      unfold b__law_same_0a_0
      simp_arith [show (true == true) = true from rfl, show (false == false) = true from rfl]
      unfold b__law_same_0a_1
      simp_arith [hr, all_true]
    | .tup xs, n + 1, hd, hs, hsh =>
      have hs' : D.seens xs = true := by simpa [D.seen] using hs
      have hd' : D.deeps xs ≤ n := by simpa [D.deep] using hd
      have hr := same_rows k xs (fun y hy => call_same n y (Nat.le_trans (deeps_mem hy) hd') (seens_mem hs' hy) (shorts_mem hsh.2 hy) k (by omega)) hsh.1 [some (.tup xs), some (.tup xs), none, none] rfl [] [] (by rw [evR]; simp_arith []) rfl
      simp_arith []
      unfold b__law_same_0a_0
      simp_arith [show (true == true) = true from rfl, show (false == false) = true from rfl]
      unfold b__law_same_0a_1
      simp_arith [hr, all_true]
/-- a live row and what it holds -/
theorem call_sameL (n k : Nat) (xs : List D) (hd : D.deeps xs ≤ n) (hs : D.seens xs = true) (hsh : Shorts xs) (hl : xs.length ≤ SZ) (hk : n + 1 ≤ k) (S : Store) (o : Nat) (ho : S[o]? = some (.lst xs)) : callF pg (k + 1) 27 [.obj o, .lst xs] S = .ok (.bl true) S := by
  refine (call_lv ⟨2, 4, false, b__law_same_0⟩ [some (.obj o), some (.lst xs), none, none] rfl (pures_obj _ _) rfl rfl).trans ?_
  have h1 : isiD S (.obj o) [.list] = some true := by simp only [isiD, ho]; rfl
  have h2 : isiD S (.obj o) [.tuple] = some false := by simp only [isiD, ho]; rfl
  have h3 : biD .len S (.obj o) = some (.int xs.length) := by simp [biD, lenD, ho]
  have hr := same_rows k xs (fun y hy => call_same n y (Nat.le_trans (deeps_mem hy) hd) (seens_mem hs hy) (shorts_mem hsh hy) k hk) hl [some (.obj o), some (.lst xs), none, none] rfl S [(o, xs)] (by rw [evR]; simp_arith [D.items, D.watch, ho, List.append_nil]) (still_one ho)
  unfold b__law_same_0
  simp_arith []
  unfold b__law_same_0a_0
  simp_arith [h1, h2, show (true == true) = true from rfl, show (false == false) = true from rfl]
  unfold b__law_same_0a_1
  simp_arith [h3, hr, all_true]
theorem call_copied : ∀ (n : Nat) (x : D), x.deep ≤ n → x.seen = true → Short x → ∀ (k : Nat), n + 1 ≤ k → ∀ S, callF pg k 26 [x] S = .ok x S
  | n, x, hd, hs, hsh, 0, hk => by omega
  | n, x, hd, hs, hsh, k + 1, hk => fun S => by
    have hp := seen_pure x hs
    refine call_ok ⟨1, 4, false, b__law_copied_0⟩ [some x, none, none, none] rfl (by simp [D.pures, hp]) rfl rfl ?_ hp (S' := [])
    unfold b__law_copied_0
    match x, n, hd, hs, hsh with
    | .non, n, _, _, _ => simp_arith []; unfold b__law_copied_1; simp_arith []
    | .bl b, n, _, _, _ => simp_arith []; unfold b__law_copied_1; simp_arith []
    | .int i, n, _, _, _ => simp_arith []; unfold b__law_copied_1; simp_arith []
    | .str s, n, _, _, _ => simp_arith []; unfold b__law_copied_1; simp_arith []
    | .lst xs, 0, hd, _, _ => simp [D.deep] at hd
    | .tup xs, 0, hd, _, _ => simp [D.deep] at hd
    | .lst xs, n + 1, hd, hs, hsh =>
      have hs' : D.seens xs = true := by simpa [D.seen] using hs
      have hd' : D.deeps xs ≤ n := by simpa [D.deep] using hd
      have hm := ev_map (cf := pg.cf (callF pg k)) (e := [some (.lst xs), none, none, none]) (S := []) (s := .val (.var 0)) (j := 2) (ex := .call 26 (.cons (.var 2) .nil)) (xs := xs) (w := []) (by simp_arith []) rfl hsh.1 (fun x => x) (fun y hy => by
        have := call_copied n y (Nat.le_trans (deeps_mem hy) hd') (seens_mem hs' hy) (shorts_mem hsh.2 hy) k (by omega) []
        simp_arith [this])
      rw [List.map_id'] at hm
      simp_arith []
      unfold b__law_copied_1
      simp_arith []
      unfold b__law_copied_2
      simp_arith [hm]
      unfold b__law_copied_3
      simp_arith []
    | .tup xs, n + 1, hd, hs, hsh =>
      have hs' : D.seens xs = true := by simpa [D.seen] using hs
      have hd' : D.deeps xs ≤ n := by simpa [D.deep] using hd
      have hm := ev_map (cf := pg.cf (callF pg k)) (e := [some (.tup xs), none, none, none]) (S := []) (s := .val (.var 0)) (j := 2) (ex := .call 26 (.cons (.var 2) .nil)) (xs := xs) (w := []) (by simp_arith []) rfl hsh.1 (fun x => x) (fun y hy => by
        have := call_copied n y (Nat.le_trans (deeps_mem hy) hd') (seens_mem hs' hy) (shorts_mem hsh.2 hy) k (by omega) []
        simp_arith [this])
      rw [List.map_id'] at hm
      simp_arith []
      unfold b__law_copied_1
      simp_arith []
      unfold b__law_copied_2
      simp_arith [hm]
      unfold b__law_copied_3
      simp_arith []
theorem call_mtext (k : Nat) (ls : List Sg) (hl : (mtext ls).length ≤ 100000) (S : Store) : callF pg (k + 1) 22 [.lst (ls.map .str)] S = .ok (.str (mtext ls)) S := by
  have hps : D.pures [.lst (ls.map .str)] = true := by
    have := (Pd_strs ls).1
    simp only [D.pure] at this
    simp [D.pures, D.pure, this]
  refine call_ok ⟨1, 2, false, b__law_mtext⟩ [some (.lst (ls.map .str)), none] rfl (by simp [hps]) rfl rfl ?_ rfl (S' := [])
  have hm := ev_mtext (cf := pg.cf (callF pg k)) (e := [some (.lst (ls.map .str)), none]) (S := []) (a := .var 0) (ls := ls) (j := 1) (by simp) (by simp_arith []) hl
  unfold b__law_mtext
  rw [evSs_cons, evS_ret, hm]
  simp_arith []
end K85m
namespace K85m
open Pv Pw K85
def SK (ls : List Sg) : Prop := ∀ l ∈ ls, okStr l = true
def M (ls : List Sg) : Nat := (mtext ls).length
theorem M_app (a b : List Sg) : M (a ++ b) = M a + M b := by simp only [M, mtext_append, List.length_append]
theorem M_len (ls : List Sg) : ls.length ≤ M ls := mtext_len ls
theorem M_mem {ls : List Sg} {l : Sg} (h : l ∈ ls) : l.length ≤ M ls := mtext_mem h
theorem M_cons (l : Sg) (ls : List Sg) : M (l :: ls) = l.length + 1 + M ls := by
  rw [show l :: ls = [l] ++ ls from rfl, M_app]; simp [M, mtext]
theorem M_split (ls : List Sg) (p : Nat) : M (ls.take p) + M (ls.drop p) = M ls := by rw [← M_app, List.take_append_drop]
theorem M_take (ls : List Sg) (p : Nat) : M (ls.take p) ≤ M ls := by have := M_split ls p; omega
theorem M_drop (ls : List Sg) (p : Nat) : M (ls.drop p) ≤ M ls := by have := M_split ls p; omega
theorem M_drop1 (ls : List Sg) (p : Nat) : M (ls.drop (p + 1)) ≤ M (ls.drop p) := by
  rw [← List.drop_drop]; exact M_drop _ _
theorem M_eq (ls : List Sg) : (ls.map List.length).sum + ls.length = M ls := by
  induction ls with
  | nil => rfl
  | cons l ls ih => rw [M_cons]; simp; omega
theorem SK_take {ls : List Sg} (h : SK ls) (p : Nat) : SK (ls.take p) := fun l hl => h l (List.mem_of_mem_take hl)
theorem SK_drop {ls : List Sg} (h : SK ls) (p : Nat) : SK (ls.drop p) := fun l hl => h l (List.mem_of_mem_drop hl)
theorem SK_app {a b : List Sg} (h : SK a) (h2 : SK b) : SK (a ++ b) := fun l hl => by
  rcases List.mem_append.mp hl with hl | hl
  · exact h l hl
  · exact h2 l hl
theorem SK_one {l : Sg} (h : okStr l = true) : SK [l] := fun x hx => by rw [List.mem_singleton.mp hx]; exact h
theorem okStr_app {a b : Sg} (h : okStr a = true) (h2 : okStr b = true) : okStr (a ++ b) = true := by
  simp only [okStr, List.all_append, Bool.and_eq_true] at *; exact ⟨h, h2⟩
theorem okStr_mtext {ls : List Sg} (h : SK ls) : okStr (mtext ls) = true := by
  induction ls with
  | nil => rfl
  | cons l ls ih =>
    rw [show l :: ls = [l] ++ ls from rfl, mtext_append]
    refine okStr_app ?_ (ih fun x hx => h x (List.mem_cons_of_mem _ hx))
    have := h l (List.mem_cons_self ..)
    simp only [mtext, List.map, List.flatten_cons, List.flatten_nil, List.append_nil]
    exact okStr_app this (by decide)
theorem join_ok : ∀ {ws : List Sg}, SK ws → okStr (joinS [32] ws) = true ∧ (joinS [32] ws).length ≤ M ws
  | [], _ => ⟨rfl, Nat.zero_le _⟩
  | [w], h => ⟨by simpa [joinS] using h w (List.mem_cons_self ..), by rw [M_cons]; simp [joinS]; omega⟩
  | w :: v :: ws, h => by
    have ih := join_ok (ws := v :: ws) fun x hx => h x (List.mem_cons_of_mem _ hx)
    have h1 := h w (List.mem_cons_self ..)
    refine ⟨okStr_app h1 (okStr_app (by decide) ih.1), ?_⟩
    rw [M_cons]
    simp only [joinS, List.length_append, List.length_cons, List.length_nil]
    have := ih.2
    omega
theorem split_M (c : Nat) : ∀ (s acc : Sg), M (splitC c acc s) = acc.length + s.length + 1
  | [], acc => by simp [splitC, M_cons, M, mtext]
  | x :: s, acc => by
    unfold splitC
    split
    · rw [M_cons, split_M c s []]; simp; omega
    · rw [split_M c s _]; simp; omega
theorem SK_split {c : Nat} {s : Sg} (h : okStr s = true) : SK (splitC c [] s) := fun x hx => okStr_split hx h
def MORE : List Sg := [[112, 117, 116], [100, 114, 111, 112], [99, 104, 97, 110, 103, 101], [78], [48], [49], [48, 49], [97], [65], [40, 41], [40], [91, 49, 44, 93], [34], [34, 97, 34], [45, 48], [124], [], [109, 97, 110, 121]]
theorem more_ok : ∀ w ∈ MORE, w.length ≤ 6 ∧ okStr w = true := by decide
abbrev bE (ls ws : List Sg) (p a kd : Nat) : Env := [some (.obj 1), some (.lst (ls.map .str)), some (.lst (MORE.map .str)), some (.lst (ws.map .str)), some (.int (p : Int)), none, some (.int (a : Int)), some (.int (kd : Int)), none]
theorem szz {m : Nat} (h : m ≤ 100000) : m ≤ SZ := Nat.le_trans h (by decide)
theorem bent_words (k : Nat) (ls ws : List Sg) (p a kd n : Nat) (S : Store) (R : Store) (hS : Str S n R) (hn : n < LIM) (hw : SK ws) (hm : M ws ≤ 1000) :
    ∃ ws' S', evSs (pg.cf (callF pg (k + 2))) b__law_mbent_3 (bE ls ws p a kd) S = evSs (pg.cf (callF pg (k + 2))) b__law_mbent_5 (bE ls ws' p a kd) S' ∧ SK ws' ∧ M ws' ≤ 2 * M ws + 10 ∧ Str S' (n + 1) R := by
  have hwl := M_len ws
  by_cases h0 : kd = 0
  · have h0' : ((kd : Int) = 0) = True := eq_true (by omega)
    refine ⟨ws.take p ++ ws.drop (p + 1), S, ?_, SK_app (SK_take hw p) (SK_drop hw _), ?_, Str_mono hS (by omega)⟩
    · have o1 := fun S => opAl S ((ws.map D.str).take p) ((ws.map D.str).drop (p + 1)) (szz (by simp; omega))
      have e : (ws.map D.str).take p ++ (ws.map D.str).drop (p + 1) = (ws.take p ++ ws.drop (p + 1)).map .str := by simp
      rw [e] at o1
      have hnin : ∀ S, cmD .in_ S (.int (kd : Int)) (.tup [.int 1, .int 8]) = some false := fun S => by rw [h0]; rfl
      unfold b__law_mbent_3
      simp_arith [h0', o1]
      unfold b__law_mbent_4
      simp_arith [hnin]
    · rw [M_app]; have := M_split ws p; have := M_drop1 ws p; omega
  · have h0' : ((kd : Int) = 0) = False := eq_false (by omega)
    by_cases h1 : kd = 1 ∨ kd = 8
    · have hin : ∀ S, cmD .in_ S (.int (kd : Int)) (.tup [.int 1, .int 8]) = some true := fun S => by rcases h1 with rfl | rfl <;> rfl
      have hap : (MORE.map D.str ++ ws.map D.str).length = 18 + ws.length := by simp [MORE]; omega
      obtain ⟨x, S', e, hx, hS'⟩ := call_pick k (MORE.map D.str ++ ws.map D.str) (by simp [MORE]) (by rw [hap]; omega) S n R hS hn
      obtain ⟨s, rfl, hs1, hs2⟩ : ∃ s, x = .str s ∧ s.length ≤ M ws + 6 ∧ okStr s = true := by
        (rcases List.mem_append.mp hx with hx | hx)
        · obtain ⟨s, hs, rfl⟩ := List.mem_map.mp hx
          have := more_ok s hs
          exact ⟨s, rfl, by omega, this.2⟩
        · obtain ⟨s, hs, rfl⟩ := List.mem_map.mp hx
          have := M_mem hs
          exact ⟨s, rfl, by omega, hw s hs⟩
      obtain ⟨o, ho, ho1⟩ : ∃ o : Nat, (if decide ((kd : Int) = 8) = true then (1 : Int) else 0) = (o : Int) ∧ o ≤ 1 := by
        by_cases h8 : (kd : Int) = 8
        · exact ⟨1, by simp [h8], by omega⟩
        · exact ⟨0, by simp [h8], by omega⟩
      refine ⟨ws.take p ++ [s] ++ ws.drop (p + o), S', ?_, SK_app (SK_app (SK_take hw p) (SK_one hs2)) (SK_drop hw _), ?_, hS'⟩
      · have o0 := fun S => opAl S (MORE.map D.str) (ws.map .str) (szz (by simp [MORE]; omega))
        have o1 := fun S => opAl S ((ws.map D.str).take p) [.str s] (szz (by simp; omega))
        have o2 := fun S => opAl S ((ws.map D.str).take p ++ [.str s]) ((ws.map D.str).drop (p + o)) (szz (by simp; omega))
        have e1 : (ws.map D.str).take p ++ [.str s] ++ (ws.map D.str).drop (p + o) = (ws.take p ++ [s] ++ ws.drop (p + o)).map .str := by simp
        rw [e1] at o2
        have ho' : (if (kd : Int) = 8 then (1 : Int) else 0) = (o : Int) := by simpa using ho
        have epo : (p : Int) + (o : Int) = ((p + o : Nat) : Int) := by omega
        unfold b__law_mbent_3
        simp_arith [h0']
        unfold b__law_mbent_4
        simp_arith [hin, o0, e, o1, ho', epo, o2]
      · rw [M_app, M_app, M_cons]
        have h2 := M_split ws p
        have h3 : M (ws.drop (p + o)) ≤ M (ws.drop p) := by rw [← List.drop_drop]; exact M_drop _ _
        have h4 : M ([] : List Sg) = 0 := rfl
        omega
    · have hnin : ∀ S, cmD .in_ S (.int (kd : Int)) (.tup [.int 1, .int 8]) = some false := fun S => by
        show some _ = _
        have a1 : ¬ (1 : Int) = kd := by omega
        have a2 : ¬ (8 : Int) = kd := by omega
        simp [D.flatEq, a1, a2]
      refine ⟨ws, S, ?_, hw, by omega, Str_mono hS (by omega)⟩
      unfold b__law_mbent_3
      simp_arith [h0']
      unfold b__law_mbent_4
      simp_arith [hnin]
end K85m
namespace K85m
open Pv Pw K85
section
variable (k : Nat) (ls ws : List Sg) (p a kd : Nat) (S : Store)
theorem b5 (hl : SK ls) (hw : SK ws) (hm : M ls ≤ 10000) (hmw : M ws ≤ 10000) :
    ∃ ls', evSs (pg.cf (callF pg k)) b__law_mbent_5 (bE ls ws p a kd) S = evSs (pg.cf (callF pg k)) b__law_mbent_6 (bE ls' ws p a kd) S ∧ SK ls' ∧ M ls' ≤ M ls + M ws + 1 ∧ (a < ls.length → ls'.length = ls.length) := by
  obtain ⟨hj1, hj2⟩ := join_ok hw
  have hll := M_len ls
  refine ⟨ls.take a ++ [joinS [32] ws] ++ ls.drop (a + 1), ?_, SK_app (SK_app (SK_take hl a) (SK_one hj1)) (SK_drop hl _), ?_, fun h => by simp; omega⟩
  · have hj := fun S => me_join (S := S) [32] ws (szz (by have := M_eq ws; show (ws.map List.length).sum + ws.length * 1 ≤ 100000; omega))
    have o1 := fun S => opAl S ((ls.map D.str).take a) [.str (joinS [32] ws)] (szz (by simp; omega))
    have o2 := fun S => opAl S ((ls.map D.str).take a ++ [.str (joinS [32] ws)]) ((ls.map D.str).drop (a + 1)) (szz (by simp; omega))
    have e1 : (ls.map D.str).take a ++ [.str (joinS [32] ws)] ++ (ls.map D.str).drop (a + 1) = (ls.take a ++ [joinS [32] ws] ++ ls.drop (a + 1)).map .str := by simp
    rw [e1] at o2
    unfold b__law_mbent_5
    simp_arith [meT_join, hj, meR_some, o1, o2]
  · rw [M_app, M_app, M_cons]
    have h1 := M_split ls a
    have h2 := M_drop1 ls a
    have h4 : M ([] : List Sg) = 0 := rfl
    omega
theorem b6 (hl : SK ls) (hm : M ls ≤ 30000) :
    ∃ ls', evSs (pg.cf (callF pg k)) b__law_mbent_6 (bE ls ws p a kd) S = evSs (pg.cf (callF pg k)) b__law_mbent_7 (bE ls' ws p a kd) S ∧ SK ls' ∧ (kd = 2 → M ls' ≤ 3 * M ls) ∧ (kd ≠ 2 → ls' = ls) := by
  have hll := M_len ls
  by_cases h : kd = 2
  · have h' : ((kd : Int) = 2) = True := eq_true (by omega)
    refine ⟨ls.take a ++ ls.drop (a + 1), ?_, SK_app (SK_take hl a) (SK_drop hl _), fun _ => ?_, fun hn => absurd h hn⟩
    · have o1 := fun S => opAl S ((ls.map D.str).take a) ((ls.map D.str).drop (a + 1)) (szz (by simp; omega))
      have e1 : (ls.map D.str).take a ++ (ls.map D.str).drop (a + 1) = (ls.take a ++ ls.drop (a + 1)).map .str := by simp
      rw [e1] at o1
      unfold b__law_mbent_6
      simp_arith [h', o1]
    · rw [M_app]
      have h1 := M_split ls a
      have h2 := M_drop1 ls a
      omega
  · have h' : ((kd : Int) = 2) = False := eq_false (by omega)
    refine ⟨ls, ?_, hl, fun hn => absurd hn h, fun _ => rfl⟩
    unfold b__law_mbent_6
    simp_arith [h']
theorem b7 (hl : SK ls) (hm : M ls ≤ 30000) :
    ∃ ls', evSs (pg.cf (callF pg k)) b__law_mbent_7 (bE ls ws p a kd) S = evSs (pg.cf (callF pg k)) b__law_mbent_8 (bE ls' ws p a kd) S ∧ SK ls' ∧ (kd = 3 → M ls' ≤ 3 * M ls) ∧ (kd ≠ 3 → ls' = ls) := by
  have hll := M_len ls
  by_cases h : kd = 3
  · have h' : ((kd : Int) = 3) = True := eq_true (by omega)
    refine ⟨ls.take (a + 1) ++ ls.drop a, ?_, SK_app (SK_take hl _) (SK_drop hl _), fun _ => ?_, fun hn => absurd h hn⟩
    · have o1 := fun S => opAl S ((ls.map D.str).take (a + 1)) ((ls.map D.str).drop a) (szz (by simp; omega))
      have e1 : (ls.map D.str).take (a + 1) ++ (ls.map D.str).drop a = (ls.take (a + 1) ++ ls.drop a).map .str := by simp
      rw [e1] at o1
      unfold b__law_mbent_7
      simp_arith [h', o1]
    · rw [M_app]
      have h1 := M_take ls (a + 1)
      have h2 := M_drop ls a
      omega
  · have h' : ((kd : Int) = 3) = False := eq_false (by omega)
    refine ⟨ls, ?_, hl, fun hn => absurd hn h, fun _ => rfl⟩
    unfold b__law_mbent_7
    simp_arith [h']
theorem b8 (hl : SK ls) (hm : M ls ≤ 30000) (ha : kd = 4 → a < ls.length) :
    ∃ ls', evSs (pg.cf (callF pg k)) b__law_mbent_8 (bE ls ws p a kd) S = evSs (pg.cf (callF pg k)) b__law_mbent_9 (bE ls' ws p a kd) S ∧ SK ls' ∧ (kd = 4 → M ls' ≤ 3 * M ls) ∧ (kd ≠ 4 → ls' = ls) := by
  have hll := M_len ls
  by_cases h : kd = 4
  · have h' : ((kd : Int) = 4) = True := eq_true (by omega)
    by_cases h0 : 0 < a
    · have h0' : ((0 : Int) < (a : Int)) = True := eq_true (by omega)
      have hal := ha h
      have m1 : ls[a] ∈ ls := List.getElem_mem _
      have m2 : ls[a - 1] ∈ ls := List.getElem_mem _
      refine ⟨ls.take (a - 1) ++ [ls[a], ls[a - 1]] ++ ls.drop (a + 1), ?_, SK_app (SK_app (SK_take hl _) fun x hx => ?_) (SK_drop hl _), fun _ => ?_, fun hn => absurd h hn⟩
      · have hs : (a : Int) - 1 = ((a - 1 : Nat) : Int) := by omega
        have g1 : (ls.map D.str)[a]? = some (.str ls[a]) := by simp [hal]
        have g2 : (ls.map D.str)[a - 1]? = some (.str ls[a - 1]) := by simp [show a - 1 < ls.length by omega]
        have o1 := fun S => opAl S ((ls.map D.str).take (a - 1)) [.str ls[a], .str ls[a - 1]] (szz (by simp; omega))
        have o2 := fun S => opAl S ((ls.map D.str).take (a - 1) ++ [.str ls[a], .str ls[a - 1]]) ((ls.map D.str).drop (a + 1)) (szz (by simp; omega))
        have e1 : (ls.map D.str).take (a - 1) ++ [.str ls[a], .str ls[a - 1]] ++ (ls.map D.str).drop (a + 1) = (ls.take (a - 1) ++ [ls[a], ls[a - 1]] ++ ls.drop (a + 1)).map .str := by simp
        rw [e1] at o2
        unfold b__law_mbent_8
        simp_arith [h', h0', hs, g1, g2, o1, o2]
      · rcases List.mem_cons.mp hx with rfl | hx
        · exact hl _ m1
        · rw [List.mem_singleton.mp hx]; exact hl _ m2
      · rw [M_app, M_app, M_cons, M_cons]
        have h1 := M_take ls (a - 1)
        have h2 := M_drop ls (a + 1)
        have h4 : M ([] : List Sg) = 0 := rfl
        have h5 : ls[a - 1].length + 1 + M (ls.drop a) = M (ls.drop (a - 1)) := by
          rw [List.drop_eq_getElem_cons (show a - 1 < ls.length by omega), M_cons, show a - 1 + 1 = a by omega]
        have h6 : ls[a].length + 1 + M (ls.drop (a + 1)) = M (ls.drop a) := by
          rw [List.drop_eq_getElem_cons hal, M_cons]
        have h7 := M_split ls (a - 1)
        omega
    · have h0' : ((0 : Int) < (a : Int)) = False := eq_false (by omega)
      refine ⟨ls, ?_, hl, fun _ => by omega, fun _ => rfl⟩
      unfold b__law_mbent_8
      simp_arith [h', h0']
  · have h' : ((kd : Int) = 4) = False := eq_false (by omega)
    refine ⟨ls, ?_, hl, fun hn => absurd hn h, fun _ => rfl⟩
    unfold b__law_mbent_8
    simp_arith [h']
theorem b9 (hl : SK ls) :
    ∃ ls', evSs (pg.cf (callF pg k)) b__law_mbent_9 (bE ls ws p a kd) S = evSs (pg.cf (callF pg k)) b__law_mbent_10 (bE ls' ws p a kd) S ∧ SK ls' ∧ M ls' ≤ M ls := by
  by_cases h : kd = 5
  · have h' : ((kd : Int) = 5) = True := eq_true (by omega)
    refine ⟨ls.take a, ?_, SK_take hl _, M_take _ _⟩
    unfold b__law_mbent_9
    simp_arith [h']
    rw [bE, List.map_take]
  · have h' : ((kd : Int) = 5) = False := eq_false (by omega)
    refine ⟨ls, ?_, hl, Nat.le_refl _⟩
    unfold b__law_mbent_9
    simp_arith [h']
theorem b_lines (hl : SK ls) (hw : SK ws) (hm : M ls ≤ 990) (hmw : M ws ≤ 1000) (ha : a < ls.length) :
    ∃ ls', evSs (pg.cf (callF pg k)) b__law_mbent_5 (bE ls ws p a kd) S = evSs (pg.cf (callF pg k)) b__law_mbent_10 (bE ls' ws p a kd) S ∧ SK ls' ∧ M ls' ≤ 6000 := by
  obtain ⟨l5, e5, s5, m5, len5⟩ := b5 k ls ws p a kd S hl hw (by omega) (by omega)
  obtain ⟨l6, e6, s6, m6, n6⟩ := b6 k l5 ws p a kd S s5 (by omega)
  have M6 : M l6 ≤ 3 * M l5 := by
    by_cases h : kd = 2
    · exact m6 h
    · rw [n6 h]; omega
  obtain ⟨l7, e7, s7, m7, n7⟩ := b7 k l6 ws p a kd S s6 (by omega)
  have M7 : M l7 ≤ 3 * M l5 := by
    by_cases h : kd = 3
    · have := m7 h; rw [n6 (by omega)] at this; exact this
    · rw [n7 h]; exact M6
  obtain ⟨l8, e8, s8, m8, n8⟩ := b8 k l7 ws p a kd S s7 (by omega) (fun h => by rw [n7 (by omega), n6 (by omega), len5 ha]; exact ha)
  have M8 : M l8 ≤ 3 * M l5 := by
    by_cases h : kd = 4
    · have := m8 h; rw [n7 (by omega), n6 (by omega)] at this; exact this
    · rw [n8 h]; exact M7
  obtain ⟨l9, e9, s9, m9⟩ := b9 k l8 ws p a kd S s8
  exact ⟨l9, by rw [e5, e6, e7, e8, e9], s9, by omega⟩
end
def BENT : Sg := [32, 10, 97, 98, 48, 49, 119, 45, 42, 9]
theorem call_bent (k : Nat) (ls : List Sg) (n : Nat) (S : Store) (R : Store) (hS : Str S n R) (hn : n + 7 ≤ LIM) (hl : SK ls) (hne : ls ≠ []) (hm : M ls ≤ 990) (hl1 : ∀ l ∈ ls, l.length ≤ 300) :
    ∃ t S', callF pg (k + 3) 21 [.obj 1, .lst (ls.map .str), .lst (MORE.map .str)] S = .ok (.str t) S' ∧ okStr t = true ∧ t.length ≤ 8000 ∧ Str S' (n + 7) R := by
  have hcall := call_lv (P := pg) (k := k + 2) (f := 21) (ds := [.obj 1, .lst (ls.map .str), .lst (MORE.map .str)]) (S := S) ⟨3, 9, false, b__law_mbent_0⟩ [some (.obj 1), some (.lst (ls.map .str)), some (.lst (MORE.map .str)), none, none, none, none, none, none] rfl (pures_obj _ _) rfl rfl
  have hll := M_len ls
  have hlp : 1 ≤ ls.length := List.length_pos_iff.mpr hne
  obtain ⟨a, S1, e1, ha, hS1⟩ := call_below (k + 1) ls.length hlp (by omega) S n R hS (by omega)
  obtain ⟨kd, S2, e2, hkd, hS2⟩ := call_below (k + 1) 9 (by decide) (by decide) S1 (n + 1) R hS1 (by omega)
  have hmem : ls[a] ∈ ls := List.getElem_mem _
  have hla := hl1 _ hmem
  have hoka := hl _ hmem
  have hwne := splitC_ne 32 ls[a] []
  have hws := SK_split (c := 32) hoka
  have hwM := split_M 32 ls[a] []
  have hsp := fun S => me_split (S := S) 32 ls[a] (szz (by omega)) (by decide)
  have hg : (ls.map D.str)[a]? = some (.str ls[a]) := by simp [ha]
  generalize splitC 32 [] ls[a] = ws at *
  have hwlen := M_len ws
  simp only [List.length_nil] at hwM
  obtain ⟨p, S3, e3, hp, hS3⟩ := call_below (k + 1) ws.length (List.length_pos_iff.mpr hwne) (by omega) S2 (n + 1 + 1) R hS2 (by omega)
  have hrun : evSs (pg.cf (callF pg (k + 2))) b__law_mbent_0 [some (.obj 1), some (.lst (ls.map .str)), some (.lst (MORE.map .str)), none, none, none, none, none, none] S = evSs (pg.cf (callF pg (k + 2))) b__law_mbent_3 (bE ls ws p a kd) S3 := by
    have e2' : callF pg (k + 2) 24 [.obj 1, .int 9] S1 = _ := e2
    unfold b__law_mbent_0
    simp_arith [List.length_map, e1, e2']
    unfold b__law_mbent_1
    simp_arith [hg, meT_split, hsp, meR_some]
    unfold b__law_mbent_2
    simp_arith [List.length_map, e3]
  obtain ⟨ws', S4, e4, hws', hwM', hS4⟩ := bent_words k ls ws p a kd (n + 1 + 1 + 1) S3 R hS3 (by omega) hws (by omega)
  obtain ⟨ls', e5, hls', hlM'⟩ := b_lines (k + 2) ls ws' p a kd S4 hl hws' hm (by omega) ha
  have hz : (mtext ls').length ≤ SZ := szz (by show M ls' ≤ _; omega)
  have hrun2 : evSs (pg.cf (callF pg (k + 2))) b__law_mbent_0 [some (.obj 1), some (.lst (ls.map .str)), some (.lst (MORE.map .str)), none, none, none, none, none, none] S = evSs (pg.cf (callF pg (k + 2))) b__law_mbent_11 [some (.obj 1), some (.lst (ls'.map .str)), some (.lst (MORE.map .str)), some (.lst (ws'.map .str)), some (.int (p : Int)), some (.str (mtext ls')), some (.int (a : Int)), some (.int (kd : Int)), none] S4 := by
    rw [hrun, e4, e5]
    have hmt := ev_mtext (cf := pg.cf (callF pg (k + 2))) (e := bE ls' ws' p a kd) (S := S4) (a := .var 1) (ls := ls') (j := 8) (by simp) (by simp_arith []) (by show M ls' ≤ _; omega)
    unfold b__law_mbent_10
    rw [evSs_cons, evS_set, hmt]
    simp_arith []
  have hokT := okStr_mtext hls'
  have hlT : (mtext ls').length ≤ 6000 := hlM'
  generalize mtext ls' = T at *
  by_cases h6 : kd = 6
  · have h6' : ((kd : Int) = 6) = True := eq_true (by omega)
    have hT1 : (T.length : Int) + 1 = ((T.length + 1 : Nat) : Int) := rfl
    obtain ⟨q, S5, e6, hq, hS5⟩ := call_below (k + 1) (T.length + 1) (by omega) (by omega) S4 (n + 1 + 1 + 1 + 1) R hS4 (by omega)
    obtain ⟨x, S6, e7, hx, hS6⟩ := call_pick k (BENT.map fun c => .str [c]) (by decide) (by decide) S5 (n + 1 + 1 + 1 + 1 + 1) R hS5 (by omega)
    obtain ⟨o, S7, e8, ho, hS7⟩ := call_below (k + 1) 2 (by decide) (by decide) S6 (n + 1 + 1 + 1 + 1 + 1 + 1) R hS6 (by omega)
    obtain ⟨c, hc, rfl⟩ := List.mem_map.mp hx
    have hcb : ∀ c ∈ BENT, c < 0x110000 := by decide
    refine ⟨T.take q ++ [c] ++ T.drop (q + o), S7, hcall.trans ?_, okStr_app (okStr_app (okStr_take _ hokT) (by simpa [okStr] using hcb c hc)) (okStr_drop _ hokT), by simp; omega, hS7⟩
    refine (congrArg (fun r => Ro.bind r endFl) hrun2).trans ?_
    have hbl : ∀ S, biD .list S (.str [32, 10, 97, 98, 48, 49, 119, 45, 42, 9]) = some (.lst (BENT.map fun c => .str [c])) := fun S => rfl
    have o1 := fun S => opAs S (T.take q) [c] (szz (by simp; omega))
    have o2 := fun S => opAs S (T.take q ++ [c]) (T.drop (q + o)) (szz (by simp; omega))
    have epo : (q : Int) + (o : Int) = ((q + o : Nat) : Int) := by omega
    have e8' : callF pg (k + 2) 24 [.obj 1, .int 2] S6 = _ := e8
    unfold b__law_mbent_11
    simp_arith [h6']
    unfold b__law_mbent_11a_0
    simp_arith [lenS _ _ hz, e6]
    unfold b__law_mbent_11a_1
    simp_arith [slcS _ _ _ _ hz, hbl, e7, o1, e8', epo, o2]
  · have h6' : ((kd : Int) = 6) = False := eq_false (by omega)
    refine (?_ : ∃ t S', callF pg (k + 3) 21 [.obj 1, .lst (ls.map .str), .lst (MORE.map .str)] S = .ok (.str t) S' ∧ okStr t = true ∧ t.length ≤ 8000 ∧ Str S' (n + 7) R)
    by_cases h7 : kd = 7 ∧ T ≠ []
    · have h7' : ((kd : Int) = 7) = True := eq_true (by omega)
      have d1 : decide (T = []) = false := decide_eq_false h7.2
      have hTl : 1 ≤ T.length := List.length_pos_iff.mpr h7.2
      have hs : (T.length : Int) - 1 = ((T.length - 1 : Nat) : Int) := by omega
      refine ⟨T.take (T.length - 1), S4, hcall.trans ?_, okStr_take _ hokT, by simp; omega, Str_mono hS4 (by omega)⟩
      refine (congrArg (fun r => Ro.bind r endFl) hrun2).trans ?_
      unfold b__law_mbent_11
      simp_arith [h6']
      unfold b__law_mbent_12
      simp_arith [h7', d1, slcS _ _ _ _ hz, lenS _ _ hz, hs]
    · refine ⟨T, S4, hcall.trans ?_, hokT, by omega, Str_mono hS4 (by omega)⟩
      refine (congrArg (fun r => Ro.bind r endFl) hrun2).trans ?_
      unfold b__law_mbent_11
      simp_arith [h6']
      unfold b__law_mbent_12
      by_cases h8 : kd = 7
      · have h8' : ((kd : Int) = 7) = True := eq_true (by omega)
        have h9 : T = [] := Classical.byContradiction fun h => h7 ⟨h8, h⟩
        have d1 : decide (T = []) = true := decide_eq_true h9
        simp_arith [h8', d1]
      · have h8' : ((kd : Int) = 7) = False := eq_false (by omega)
        simp_arith [h8']
end K85m
namespace K85m
open Pv Pw K85
theorem split_one (c : Nat) : ∀ (l acc r : Sg), (∀ x ∈ l, x ≠ c) → splitC c acc (l ++ c :: r) = (acc ++ l) :: splitC c [] r
  | [], acc, r, _ => by simp [splitC]
  | x :: l, acc, r, h => by
    rw [List.cons_append, splitC, if_neg (h x (List.mem_cons_self ..)), split_one c l _ _ fun y hy => h y (List.mem_cons_of_mem _ hy)]
    simp
theorem split_end (c : Nat) : ∀ (l acc : Sg), (∀ x ∈ l, x ≠ c) → splitC c acc l = [acc ++ l]
  | [], acc, _ => by simp [splitC]
  | x :: l, acc, h => by
    rw [splitC, if_neg (h x (List.mem_cons_self ..)), split_end c l _ fun y hy => h y (List.mem_cons_of_mem _ hy)]
    simp
theorem thing_mono {d : Nat} {x : D} (h : Thing d x) : ∀ e, d ≤ e → Thing e x := by
  induction h with
  | leaf d x h => exact fun e _ => .leaf e x h
  | lst d xs hx hl ih =>
    intro e he
    obtain ⟨e, rfl⟩ : ∃ j, e = j + 1 := ⟨e - 1, by omega⟩
    exact .lst e xs (fun x hxx => ih x hxx e (by omega)) hl
  | tup d xs hx hl ih =>
    intro e he
    obtain ⟨e, rfl⟩ : ∃ j, e = j + 1 := ⟨e - 1, by omega⟩
    exact .tup e xs (fun x hxx => ih x hxx e (by omega)) hl
theorem names_32 : ∀ n ∈ NAMES, (∀ c ∈ n, c ≠ 32) ∧ (∀ c ∈ n, c ≠ 10) ∧ nameB n = true := by decide
theorem put_words (n : Sg) (hn : n ∈ NAMES) (f : Sg) : splitC 32 [] (PUTs ++ n ++ Ps ++ f) = PUT :: n :: [112] :: splitC 32 [] f := by
  have h := (names_32 n hn).1
  have e : PUTs ++ n ++ Ps ++ f = PUT ++ 32 :: (n ++ 32 :: ([112] ++ 32 :: f)) := by simp [PUTs, PUT, Ps]
  rw [e, split_one 32 PUT [] _ (by decide), split_one 32 n [] _ h, split_one 32 [112] [] _ (by decide)]
  rfl
theorem put_back {d : Nat} {n : Sg} {x : D} (hn : n ∈ NAMES) (hx : Thing d x) (hd : d ≤ 8) : putR (PUTs ++ n ++ Ps ++ flat x) = some (.tup [.str PUT, .str n, .str [112], x]) := by
  unfold putR
  simp only [put_words n hn (flat x)]
  have hl : 4 ≤ (PUT :: n :: [112] :: splitC 32 [] (flat x)).length := by
    have := List.length_pos_iff.mpr (splitC_ne 32 (flat x) [])
    (simp only [List.length_cons]; omega)
  have h1 : (PUT :: n :: [112] :: splitC 32 [] (flat x)).getD 1 [] = n := rfl
  have h2 : (PUT :: n :: [112] :: splitC 32 [] (flat x)).getD 2 [] = [112] := rfl
  have hdrop : (PUTs ++ n ++ Ps ++ flat x).drop (n.length + [112].length + 6) = flat x := by
    have e : n.length + [112].length + 6 = (PUTs ++ n ++ Ps).length := by simp [PUTs, Ps]
    rw [e, List.drop_left]
  have hT := T_back (thing_mono hx 8 hd) [] (.inl rfl)
  rw [List.append_nil] at hT
  rw [h1, h2, (names_32 n hn).2.2, show nameB [112] = true by decide, hdrop, hT]
  simp [splitC_ne 32 (flat x) []]
theorem runR_cons {st st2 : St} {l : Sg} (h : stepR st l = some st2) (n : Nat) (ls : List Sg) : runR st n (l :: ls) = runR st2 (n + 1) ls := by
  rw [runR, h]
theorem runR_app : ∀ (a b : List Sg) (n : Nat) (st st' : St), runR st n a = .inr st' → runR st n (a ++ b) = runR st' (n + a.length) b
  | [], b, n, st, st', h => by cases h; rfl
  | l :: a, b, n, st, st', h => by
    rw [List.cons_append]
    cases hs : stepR st l with
    | none => rw [runR, hs] at h; cases h
    | some st2 =>
      rw [runR_cons hs] at h ⊢
      rw [runR_app a b (n + 1) st2 st' h]
      simp only [List.length_cons]
      rw [show n + 1 + a.length = n + (a.length + 1) by omega]
theorem chg_back (found : List D) : ∀ (ls acc : List Sg) (n : Nat), ls ≠ [] → M (acc ++ ls) + ls.length ≤ 8000 → runR ⟨found, ls.length, acc⟩ n (ls.map fun l => [124] ++ l) = .inr ⟨found ++ [chg (mtext (acc ++ ls))], 0, []⟩
  | [], acc, n, h, _ => absurd rfl h
  | l :: ls, acc, n, _, hM => by
    have hM2 : M (acc ++ [l]) ≤ M (acc ++ l :: ls) := by
      rw [M_app, M_app, M_cons, M_cons]
      have h4 : M ([] : List Sg) = 0 := rfl
      omega
    simp only [List.length_cons] at hM
    have hstep : stepR ⟨found, ls.length + 1, acc⟩ ([124] ++ l) = if ls.length = 0 then some ⟨found ++ [chg (mtext (acc ++ [l]))], 0, []⟩ else some ⟨found, ls.length, acc ++ [l]⟩ := by
      unfold stepR
      have h1 : ([124] ++ l).take 1 = [124] := by simp
      have h2 : ([124] ++ l).drop 1 = l := by simp
      have h3 : (mtext (acc ++ [l])).length + ls.length ≤ 8000 := by show M (acc ++ [l]) + _ ≤ _; omega
      simp only [h1, h2, decide_true, Bool.and_self, if_true, Nat.zero_lt_succ, Nat.add_sub_cancel, h3]
    rw [List.map_cons, List.length_cons]
    cases ls with
    | nil =>
      rw [runR_cons (hstep.trans (if_pos rfl))]
      rfl
    | cons m ls =>
      rw [runR_cons (hstep.trans (if_neg (by simp)))]
      have ih := chg_back found (m :: ls) (acc ++ [l]) (n + 1) (by simp) (by
        rw [List.append_assoc]
        simp only [List.cons_append, List.nil_append, List.length_cons] at hM ⊢
        omega)
      simp only [List.append_assoc, List.cons_append, List.nil_append] at ih
      exact ih
theorem fig_small : ∀ n : Nat, n ≤ 3 → figR [48 + n] = some n := by
  intro n hn
  have h : ∀ m ∈ List.range 4, figR [48 + m] = some m := by decide
  exact h n (by simp; omega)
theorem form_back {d : Nat} {its : List D} {ls : List Sg} (h : Form d its ls) (hd : d ≤ 8) (found : List D) (n : Nat) : runR ⟨found, 0, []⟩ n ls = .inr ⟨found ++ [.tup its], 0, []⟩ := by
  cases h with
  | put nm x hn hx =>
    have hs : stepR ⟨found, 0, []⟩ (PUTs ++ nm ++ Ps ++ flat x) = some ⟨found ++ [.tup [.str PUT, .str nm, .str [112], x]], 0, []⟩ := by
      unfold stepR
      rw [if_neg (by simp)]
      simp only [put_words nm hn (flat x), put_back hn hx hd]
      rfl
    simp only [runR, hs]
  | drop nm hn =>
    have hw : splitC 32 [] (DROPs ++ nm) = [DROP, nm] := by
      have e : DROPs ++ nm = DROP ++ 32 :: nm := by simp [DROPs, DROP]
      rw [e, split_one 32 DROP [] _ (by decide), split_end 32 nm [] (names_32 nm hn).1]
      rfl
    have hs : stepR ⟨found, 0, []⟩ (DROPs ++ nm) = some ⟨found ++ [.tup [.str DROP, .str nm]], 0, []⟩ := by
      unfold stepR
      rw [if_neg (by simp)]
      simp only [hw]
      have hg0 : ([DROP, nm] : List Sg).getD 0 [] = DROP := rfl
      rw [hg0, if_neg (by decide)]
      have : nameB nm = true := (names_32 nm hn).2.2
      simp [this, List.getD]
    simp only [runR, hs]
  | chg ls h3 hl =>
    have hns := (small_numS ls.length h3).2
    have hw : splitC 32 [] (CHGs ++ numS (ls.length : Int)) = [CHG, [48 + ls.length]] := by
      have e : CHGs ++ numS (ls.length : Int) = CHG ++ 32 :: [48 + ls.length] := by rw [hns]; simp [CHGs, CHG]
      rw [e, split_one 32 CHG [] _ (by decide), split_end 32 [48 + ls.length] [] (by intro c hc; simp at hc; omega)]
      rfl
    have hs : stepR ⟨found, 0, []⟩ (CHGs ++ numS (ls.length : Int)) = if ls.length = 0 then some ⟨found ++ [chg []], 0, []⟩ else some ⟨found, ls.length, []⟩ := by
      unfold stepR
      rw [if_neg (by simp)]
      simp only [hw]
      have hg0 : ([CHG, [48 + ls.length]] : List Sg).getD 0 [] = CHG := rfl
      have hg1 : ([CHG, [48 + ls.length]] : List Sg).getD 1 [] = [48 + ls.length] := rfl
      have d1 : decide (CHG = DROP) = false := by decide
      rw [hg0, hg1, if_neg (by decide), fig_small _ h3, d1]
      simp only [Bool.false_and, Bool.false_eq_true, if_false, List.length_cons, List.length_nil, decide_true, Bool.and_self, if_true]
      rw [if_pos (by omega)]
    simp only [runR, hs]
    by_cases h0 : ls = []
    · subst h0
      rfl
    · rw [if_neg (fun e => h0 (List.eq_nil_of_length_eq_zero e))]
      have hm := form_chg_len h3 hl
      have := chg_back found ls [] (n + 1) h0 (by show (mtext ([] ++ ls)).length + _ ≤ _; simp only [List.nil_append]; omega)
      simpa [chg] using this
theorem forms_back (d : Nat) (hd : d ≤ 8) : ∀ (fs : List (List D × List Sg)) (found : List D) (n : Nat), (∀ f ∈ fs, Form d f.1 f.2) → runR ⟨found, 0, []⟩ n (linesOf fs) = .inr ⟨found ++ fs.map (fun f => .tup f.1), 0, []⟩
  | [], found, n, _ => by simp [linesOf, runR]
  | f :: fs, found, n, h => by
    have h1 := form_back (h f (List.mem_cons_self ..)) hd found n
    have h2 : linesOf (f :: fs) = f.2 ++ linesOf fs := by simp [linesOf]
    rw [h2, runR_app _ _ _ _ _ h1, forms_back d hd fs _ _ fun g hg => h g (List.mem_cons_of_mem _ hg)]
    simp
theorem rows_mtext (ls : List Sg) (h : ∀ l ∈ ls, ∀ c ∈ l, c ≠ 10) : rows (mtext ls) = ls ++ [[]] := split_mtext ls h
/-- a text of deeds read -/
theorem linesR_back (d : Nat) (hd : d ≤ 8) (fs : List (List D × List Sg)) (h : ∀ f ∈ fs, Form d f.1 f.2) (h10 : ∀ l ∈ linesOf fs, ∀ c ∈ l, c ≠ 10) : linesR (mtext (linesOf fs)) = (fs.map (fun f => .tup f.1), none) := by
  unfold linesR
  rw [rows_mtext _ h10, List.dropLast_concat]
  have := forms_back d hd fs [] 1 h
  rw [show st0 = ⟨[], 0, []⟩ from rfl, this]
  simp
/-- signs that may stand in a line -/
def Cln (s : Sg) : Prop := ∀ c ∈ s, c ≠ 10 ∧ c < 0x110000
theorem cln_app {a b : Sg} (h : Cln a) (h2 : Cln b) : Cln (a ++ b) := fun c hc => by
  (rcases List.mem_append.mp hc with hc | hc)
  · exact h c hc
  · exact h2 c hc
theorem cln_ok {s : Sg} (h : Cln s) : okStr s = true := by
  simp only [okStr, List.all_eq_true, decide_eq_true_eq]
  exact fun c hc => (h c hc).2
instance (s : Sg) : Decidable (Cln s) := inferInstanceAs (Decidable (∀ c ∈ s, c ≠ 10 ∧ c < 0x110000))
theorem ints_cln : ∀ i ∈ INTS, Cln (numS i) := by decide +kernel
theorem strs_cln : ∀ s ∈ STRS, Cln s := by decide
theorem names_cln : ∀ s ∈ NAMES, Cln s := by decide
theorem flat_cln {d : Nat} {x : D} (h : Thing d x) : Cln (flat x) := by
  have hs : ∀ ys : List D, (∀ y ∈ ys, Cln (flat y)) → Cln (flats ys) := by
    intro ys
    induction ys with
    | nil => intro _ c hc; cases hc
    | cons y ys ih =>
      intro hy
      exact cln_app (cln_app (hy y (List.mem_cons_self ..)) (by decide)) (ih fun z hz => hy z (List.mem_cons_of_mem _ hz))
  induction h with
  | leaf d x h =>
    rcases h with rfl | ⟨i, rfl, hi⟩ | ⟨s, rfl, hs⟩
    · decide
    · exact ints_cln i hi
    · exact cln_app (cln_app (by decide) (strs_cln s hs)) (by decide)
  | lst d xs hx hl ih => exact cln_app (cln_app (by decide) (hs xs ih)) (by decide)
  | tup d xs hx hl ih => exact cln_app (cln_app (by decide) (hs xs ih)) (by decide)
theorem abq_cln : ∀ c ∈ ABQ, c ≠ 10 ∧ c < 0x110000 := by decide
theorem form_lines {d : Nat} {its : List D} {ls : List Sg} (h : Form d its ls) : ls ≠ [] ∧ (∀ l ∈ ls, Cln l ∧ l.length ≤ 15 + FL d) ∧ M ls ≤ 40 + FL d := by
  have hge := FL_ge d
  have hnil : M ([] : List Sg) = 0 := rfl
  cases h with
  | put n x hn hx =>
    have h1 := names_len n hn
    have h2 := flat_len hx
    have hlen : (PUTs ++ n ++ Ps ++ flat x).length ≤ 15 + FL d := by simp [PUTs, Ps]; omega
    refine ⟨by simp, fun l hl => ?_, by rw [M_cons]; omega⟩
    rw [List.mem_singleton.mp hl]
    exact ⟨cln_app (cln_app (cln_app (by decide) (names_cln n hn)) (by decide)) (flat_cln hx), hlen⟩
  | drop n hn =>
    have h1 := names_len n hn
    have hlen : (DROPs ++ n).length ≤ 15 + FL d := by simp [DROPs]; omega
    refine ⟨by simp, fun l hl => ?_, by rw [M_cons]; omega⟩
    rw [List.mem_singleton.mp hl]
    exact ⟨cln_app (by decide) (names_cln n hn), hlen⟩
  | chg ls h3 hl =>
    have hns := small_numS ls.length h3
    have hlen : (CHGs ++ numS (ls.length : Int)).length ≤ 8 := by simp [CHGs]; omega
    have hmm : M (ls.map fun l => [124] ++ l) ≤ 3 * 5 := mtext_le (by simpa using h3) (fun l hl2 => by
      obtain ⟨m, hm, rfl⟩ := List.mem_map.mp hl2
      have := (hl m hm).1
      simp; omega)
    refine ⟨by simp, fun l hl2 => ?_, by rw [M_cons]; omega⟩
    rcases List.mem_cons.mp hl2 with rfl | hl2
    · refine ⟨?_, by omega⟩
      have hc : ∀ m ∈ List.range 4, Cln (CHGs ++ numS (m : Int)) := by decide +kernel
      exact hc ls.length (by simp; omega)
    · obtain ⟨m, hm, rfl⟩ := List.mem_map.mp hl2
      have := hl m hm
      refine ⟨cln_app (by decide) (fun c hc => abq_cln c (this.2 c hc)), by have := this.1; simp; omega⟩
theorem forms_lines (d : Nat) : ∀ (fs : List (List D × List Sg)), (∀ f ∈ fs, Form d f.1 f.2) → (∀ l ∈ linesOf fs, Cln l ∧ l.length ≤ 15 + FL d) ∧ M (linesOf fs) ≤ fs.length * (40 + FL d) ∧ (fs ≠ [] → linesOf fs ≠ [])
  | [], _ => ⟨by simp [linesOf], by simp [linesOf, M, mtext], fun h => absurd rfl h⟩
  | f :: fs, h => by
    obtain ⟨h1, h2, h3⟩ := form_lines (h f (List.mem_cons_self ..))
    obtain ⟨i1, i2, i3⟩ := forms_lines d fs fun g hg => h g (List.mem_cons_of_mem _ hg)
    have e : linesOf (f :: fs) = f.2 ++ linesOf fs := by simp [linesOf]
    rw [e]
    refine ⟨fun l hl => ?_, ?_, fun _ => by simp [h1]⟩
    · rcases List.mem_append.mp hl with hl | hl
      · exact h2 l hl
      · exact i1 l hl
    · rw [M_app, List.length_cons, Nat.add_mul, Nat.one_mul]; omega
end K85m
namespace K85m
open Pv Pw K85
/-- what == may look at, of lengths and a depth that are spoken of -/
def Sd (x : D) : Prop := x.seen = true ∧ Short x ∧ x.deep ≤ 20
theorem sd_list {d : Nat} {xs : List D} (h : ∀ x ∈ xs, x.seen = true ∧ Short x ∧ x.deep ≤ d) : D.seens xs = true ∧ Shorts xs ∧ D.deeps xs ≤ d := by
  induction xs with
  | nil => exact ⟨rfl, trivial, Nat.zero_le _⟩
  | cons x xs ih =>
    (have h1 := h x (List.mem_cons_self ..))
    have h2 := ih fun y hy => h y (List.mem_cons_of_mem _ hy)
    refine ⟨by simp only [D.seens, h1.1, h2.1, Bool.and_self], ⟨h1.2.1, h2.2.1⟩, ?_⟩
    simp only [D.deeps]
    have := h1.2.2
    have := h2.2.2
    omega
theorem rowR_sd {T : Sg → Option (D × Nat)} {d : Nat} (hT : ∀ s x n, okStr s = true → s.length ≤ 8050 → T s = some (x, n) → (x.seen = true ∧ Short x) ∧ 1 ≤ n) {cl : Nat} : ∀ {n : Nat} {s : Sg} {p : List D × Nat}, okStr s = true → s.length ≤ 8050 → rowR T cl n s = some p → (∀ x ∈ p.1, x.seen = true ∧ Short x) ∧ p.1.length ≤ s.length
  | 0, s, p, _, _, h => by cases h
  | n + 1, s, p, hk, hz, h => by
    have hs1 : 1 ≤ s.length := by
      cases s with
      | nil => simp [rowR] at h
      | cons _ _ => simp
    unfold rowR at h
    split at h
    · cases h
    · split at h
      · cases h; exact ⟨by simp, Nat.zero_le _⟩
      · split at h
        · cases h
        · rename_i x m hx
          split at h
          · cases hr : rowR T cl n (s.drop (m + 1)) with
            | none => rw [hr] at h; cases h
            | some q =>
              rw [hr] at h
              cases h
              have h2 := rowR_sd (d := d) hT (okStr_drop (m + 1) hk) (by rw [List.length_drop]; omega) hr
              have h3 := hT _ _ _ hk hz hx
              refine ⟨?_, ?_⟩
              · intro y hy
                (rcases List.mem_cons.mp hy with rfl | hy)
                · exact h3.1
                · exact h2.1 y hy
              · have := h2.2
                rw [List.length_drop] at this
                simp only [List.length_cons]
                omega
          · cases h
theorem T_sd : ∀ (d : Nat) (s : Sg) (x : D) (n : Nat), okStr s = true → s.length ≤ 8050 → T d s = some (x, n) → (x.seen = true ∧ Short x) ∧ 1 ≤ n
  | d, s, x, n, hk, hz, h => by
    refine ⟨?_, (T_len d s x n h).1⟩
    unfold T at h
    split at h
    · cases h; exact ⟨rfl, trivial⟩
    · split at h
      · unfold strR at h
        split at h
        · cases h
          refine ⟨?_, trivial⟩
          simp only [D.seen]
          exact okStr_sub (fun c hc => List.mem_of_mem_drop ((List.takeWhile_sublist _).subset hc)) hk
        · cases h
      · split at h
        · cases d with
          | zero => cases h
          | succ d =>
            simp only [] at h
            cases hr : rowR (T d) (if s.take 1 = [40] then 41 else 93) s.length (s.drop 1) with
            | none => rw [hr] at h; cases h
            | some q =>
              rw [hr] at h
              have hq := rowR_sd (d := d) (T_sd d) (okStr_drop 1 hk) (by rw [List.length_drop]; omega) hr
              have h2 : D.seens q.1 = true ∧ Shorts q.1 := by
                have hq1 := hq.1
                clear hq hr h
                obtain ⟨l, m⟩ := q
                induction l with
                | nil => exact ⟨rfl, trivial⟩
                | cons y l ih =>
                  have h1 := hq1 y (List.mem_cons_self ..)
                  have h2 := ih fun z hz => hq1 z (List.mem_cons_of_mem _ hz)
                  exact ⟨by simp only [D.seens, h1.1, h2.1, Bool.and_self], h1.2, h2.2⟩
              have hlen : q.1.length ≤ SZ := szz (by have := hq.2; rw [List.length_drop] at this; omega)
              cases h
              split
              · exact ⟨by simpa [D.seen] using h2.1, hlen, h2.2⟩
              · exact ⟨by simpa [D.seen] using h2.1, hlen, h2.2⟩
        · obtain ⟨i, rfl⟩ := numR_pure h
          exact ⟨rfl, trivial⟩
theorem sd_chg {t : Sg} (h : okStr t = true) : Sd (chg t) := by
  refine ⟨?_, ⟨szz (by simp), trivial, trivial, trivial⟩, by simp [chg, D.deep, D.deeps]⟩
  simp only [chg, D.seen, D.seens, h, Bool.and_true]
  decide
theorem sd_strs {ws : List Sg} (h : SK ws) (hl : ws.length ≤ SZ) : Sd (.tup (ws.map .str)) := by
  have := sd_list (d := 0) (xs := ws.map .str) fun x hx => by
    obtain ⟨w, hw, rfl⟩ := List.mem_map.mp hx
    exact ⟨by simpa [D.seen] using h w hw, trivial, Nat.zero_le _⟩
  exact ⟨by simpa [D.seen] using this.1, ⟨by simpa using hl, this.2.1⟩, by simp only [D.deep]; have := this.2.2; omega⟩
theorem putR_sd {line : Sg} {x : D} (hk : okStr line = true) (hz : line.length ≤ 8000) (h : putR line = some x) : Sd x := by
  have hin : ∀ w ∈ splitC 32 [] line, okStr w = true := fun w hw => okStr_split hw hk
  unfold putR at h
  simp only [] at h
  generalize splitC 32 [] line = ws at *
  split at h
  · rename_i hc
    (simp only [Bool.and_eq_true, decide_eq_true_eq] at hc)
    have m1 := hin _ (getD_mem ws 1 (by omega))
    have m2 := hin _ (getD_mem ws 2 (by omega))
    split at h
    · cases h
    · rename_i p hp
      split at h
      · cases h
        obtain ⟨x, n⟩ := p
        have h1 := T_Pd 8 _ _ _ hp
        have h2 := T_sd 8 _ _ _ (okStr_drop _ hk) (by rw [List.length_drop]; omega) hp
        have h3 := sd_list (d := 8) (xs := [.str PUT, .str (ws.getD 1 []), .str (ws.getD 2 []), x]) (fun y hy => by
          simp only [List.mem_cons, List.not_mem_nil, or_false] at hy
          rcases hy with rfl | rfl | rfl | rfl
          · exact ⟨by decide, trivial, Nat.zero_le _⟩
          · exact ⟨by simpa [D.seen] using m1, trivial, Nat.zero_le _⟩
          · exact ⟨by simpa [D.seen] using m2, trivial, Nat.zero_le _⟩
          · exact ⟨h2.1.1, h2.1.2, h1.2⟩)
        exact ⟨by simpa [D.seen] using h3.1, ⟨szz (by simp), h3.2.1⟩, by simp only [D.deep]; have := h3.2.2; omega⟩
      · cases h
  · cases h
/-- a state of what == may look at -/
def SdS (st : St) : Prop := (∀ x ∈ st.found, Sd x) ∧ SK st.ls
theorem stepR_sd {st st' : St} {line : Sg} (hk : okStr line = true) (hz : line.length ≤ 8000) (h : stepR st line = some st') (hs : SdS st) : SdS st' := by
  have add : ∀ (y : D) (n : Nat), Sd y → SdS ⟨st.found ++ [y], n, []⟩ := by
    intro y n hy
    refine ⟨fun x hx => ?_, by intro l hl; cases hl⟩
    (rcases List.mem_append.mp hx with hx | hx)
    · exact hs.1 x hx
    · rw [List.mem_singleton.mp hx]; exact hy
  have hls : SK (st.ls ++ [line.drop 1]) := SK_app hs.2 (SK_one (okStr_drop 1 hk))
  unfold stepR at h
  split at h
  · simp only [] at h
    split at h
    · split at h
      · cases h; exact add _ _ (sd_chg (okStr_mtext hls))
      · cases h; exact ⟨hs.1, hls⟩
    · cases h
  · simp only [] at h
    split at h
    · split at h
      · cases h
      · rename_i hp; cases h; exact add _ _ (putR_sd hk hz hp)
    · split at h
      · cases h
        exact add _ _ (sd_strs (SK_split hk) (szz (by have := splitC_len 32 line []; omega)))
      · split at h
        · split at h
          · cases h
          · split at h
            · split at h
              · cases h; exact add _ _ (sd_chg (by decide))
              · cases h; exact ⟨hs.1, by intro l hl; cases hl⟩
            · cases h
        · cases h
theorem runR_sd : ∀ (ls : List Sg) (n : Nat) (st st' : St), (∀ l ∈ ls, okStr l = true ∧ l.length ≤ 8000) → runR st n ls = .inr st' → SdS st → SdS st'
  | [], n, st, st', _, h, hs => by cases h; exact hs
  | l :: ls, n, st, st', hl, h, hs => by
    have h1 := hl l (List.mem_cons_self ..)
    unfold runR at h
    split at h
    · cases h
    · rename_i st2 hst
      exact runR_sd ls _ _ _ (fun x hx => hl x (List.mem_cons_of_mem _ hx)) h (stepR_sd h1.1 h1.2 hst hs)
theorem linesR_sd (text : Sg) (hz : text.length ≤ 8050) (hlz : ∀ l ∈ rows text, l.length ≤ 8000) (hk : okStr text = true) : (∀ x ∈ (linesR text).1, Sd x) ∧ (linesR text).1.length ≤ SZ := by
  unfold linesR
  cases hr : runR st0 1 (rows text).dropLast with
  | inl n => exact ⟨by simp, Nat.zero_le _⟩
  | inr st =>
    have hok := runR_ok (rows text).dropLast 1 st0 st hr ⟨fun _ => rfl, by simp [st0, mtext], by simp [st0]⟩ (by intro x hx; cases hx)
    have hsd := runR_sd (rows text).dropLast 1 st0 st (fun l hl => by
      have hm : l ∈ rows text := (List.dropLast_sublist _).subset hl
      exact ⟨okStr_split hm hk, hlz l hm⟩) hr ⟨by simp [st0], by intro x hx; simp [st0] at hx⟩
    have hlen := splitC_len 10 text []
    have hl2 : (rows text).dropLast.length ≤ 8051 := by rw [List.length_dropLast]; show (splitC 10 [] text).length - 1 ≤ _; omega
    simp only []
    split
    · refine ⟨hsd.1, ?_⟩
      show st.found.length ≤ SZ
      have h3 := hok.2.2
      have h4 : st0.found.length = 0 := rfl
      exact szz (by omega)
    · exact ⟨by simp, Nat.zero_le _⟩
theorem strs_ok : ∀ s ∈ STRS, okStr s = true := by decide
theorem thing_sd {d : Nat} {x : D} (h : Thing d x) : x.seen = true ∧ Short x := by
  induction h with
  | leaf d x h =>
    rcases h with rfl | ⟨i, rfl, hi⟩ | ⟨s, rfl, hs⟩
    · exact ⟨rfl, trivial⟩
    · exact ⟨rfl, trivial⟩
    · exact ⟨by simpa [D.seen] using strs_ok s hs, trivial⟩
  | lst d xs hx hl ih =>
    have h2 : D.seens xs = true ∧ Shorts xs := by
      clear hx hl
      induction xs with
      | nil => exact ⟨rfl, trivial⟩
      | cons y l ih2 =>
        have h1 := ih y (List.mem_cons_self ..)
        have h2 := ih2 fun z hz => ih z (List.mem_cons_of_mem _ hz)
        exact ⟨by simp only [D.seens, h1.1, h2.1, Bool.and_self], h1.2, h2.2⟩
    exact ⟨by simpa [D.seen] using h2.1, szz (by omega), h2.2⟩
  | tup d xs hx hl ih =>
    have h2 : D.seens xs = true ∧ Shorts xs := by
      clear hx hl
      induction xs with
      | nil => exact ⟨rfl, trivial⟩
      | cons y l ih2 =>
        have h1 := ih y (List.mem_cons_self ..)
        have h2 := ih2 fun z hz => ih z (List.mem_cons_of_mem _ hz)
        exact ⟨by simp only [D.seens, h1.1, h2.1, Bool.and_self], h1.2, h2.2⟩
    exact ⟨by simpa [D.seen] using h2.1, szz (by omega), h2.2⟩
theorem form_sd {d : Nat} {its : List D} {ls : List Sg} (h : Form d its ls) (hd : d ≤ 8) : Sd (.tup its) := by
  have key : ∀ its : List D, its.length ≤ 5 → (∀ x ∈ its, x.seen = true ∧ Short x ∧ x.deep ≤ 8) → Sd (.tup its) := by
    intro its hl h
    have := sd_list h
    exact ⟨by simpa [D.seen] using this.1, ⟨szz (by omega), this.2.1⟩, by simp only [D.deep]; have := this.2.2; omega⟩
  cases h with
  | put n x hn hx =>
    refine key _ (by simp) fun y hy => ?_
    simp only [List.mem_cons, List.not_mem_nil, or_false] at hy
    rcases hy with rfl | rfl | rfl | rfl
    · exact ⟨by decide, trivial, Nat.zero_le _⟩
    · exact ⟨by simpa [D.seen] using (names_ok n hn).2.1, trivial, Nat.zero_le _⟩
    · exact ⟨by decide, trivial, Nat.zero_le _⟩
    · have h1 := thing_sd hx
      have h2 := (thing_Pd hx).2
      exact ⟨h1.1, h1.2, by omega⟩
  | drop n hn =>
    refine key _ (by simp) fun y hy => ?_
    simp only [List.mem_cons, List.not_mem_nil, or_false] at hy
    rcases hy with rfl | rfl
    · exact ⟨by decide, trivial, Nat.zero_le _⟩
    · exact ⟨by simpa [D.seen] using (names_ok n hn).2.1, trivial, Nat.zero_le _⟩
  | chg ls h3 hl => exact sd_chg (okStr_mtext fun l h => cln_ok fun c hc => abq_cln c ((hl l h).2 c hc))
end K85m
namespace K85m
open Pv Pw K85
abbrev LINE : Sg := [108, 105, 110, 101]
abbrev DEEDw : Sg := [100, 101, 101, 100]
abbrev TOLD : Sg := [116, 111, 108, 100]
theorem grd_ok (hs : List (Nat × Sg)) (w : Sg) (d : D) (S : Store) : grdD hs w (.ok d S) = .ok (.tup [.str w, d]) S := rfl
theorem grd_err0 (w : Sg) (d : D) (S : Store) : grdD [(1, [108, 105, 110, 101]), (0, [100, 101, 101, 100])] w (.err 0 [d] S) = .ok (.tup [.str DEEDw, d]) S := rfl
theorem grd_err1 (w : Sg) (d : D) (S : Store) : grdD [(1, [108, 105, 110, 101]), (0, [100, 101, 101, 100])] w (.err 1 [d] S) = .ok (.tup [.str LINE, d]) S := rfl
abbrev lE (v0 v2 v3 v4 v5 v6 v7 v8 v9 v10 v11 v12 v13 v14 v15 v16 v17 v18 v19 v20 v21 : Option D) : Env := [v0, some (.obj 1), v2, v3, v4, v5, v6, v7, v8, v9, v10, v11, v12, v13, v14, v15, v16, v17, v18, v19, v20, v21]
theorem Str_app {S : Store} {n : Nat} {R : Store} (h : Str S n R) (c : Cell) : Str (S ++ [c]) n (R ++ [c]) := by
  obtain ⟨a, l, b, m, rfl, h2⟩ := h
  exact ⟨a, l, b, m, rfl, h2⟩
theorem Str_len {S : Store} {n : Nat} {R : Store} (h : Str S n R) : S.length = R.length + 2 := by
  obtain ⟨a, l, b, m, rfl, h2⟩ := h
  rfl
theorem Str_set {S : Store} {n : Nat} {R : Store} (h : Str S n R) (i : Nat) (c : Cell) : Str (S.set (i + 2) c) n (R.set i c) := by
  obtain ⟨a, l, b, m, rfl, h2⟩ := h
  exact ⟨a, l, b, m, rfl, h2⟩
/-- the deeds of rows of forms -/
def deedsOf (fs : List (List D × List Sg)) : List D := fs.map fun f => .tup f.1
theorem deeds_sd {d : Nat} (hd : d ≤ 8) {fs : List (List D × List Sg)} (h : ∀ f ∈ fs, Form d f.1 f.2) : ∀ x ∈ deedsOf fs, Sd x := by
  intro x hx
  obtain ⟨f, hf, rfl⟩ := List.mem_map.mp hx
  exact form_sd (h f hf) hd
theorem sd_row {xs : List D} (h : ∀ x ∈ xs, Sd x) (hl : xs.length ≤ SZ) : (D.lst xs).seen = true ∧ Short (.lst xs) ∧ (D.lst xs).deep ≤ 21 := by
  have := sd_list h
  exact ⟨by simpa [D.seen] using this.1, ⟨hl, this.2.1⟩, by simp only [D.deep]; have := this.2.2; omega⟩
theorem lift_forms : ∀ {ys : List D}, (∀ y ∈ ys, ∃ its ls, y = .lst [.tup its, .lst (ls.map D.str)] ∧ Form 3 its ls) → ∃ fs : List (List D × List Sg), ys = fs.map (fun f => D.lst [.tup f.1, .lst (f.2.map .str)]) ∧ ∀ f ∈ fs, Form 3 f.1 f.2
  | [], _ => ⟨[], rfl, by simp⟩
  | y :: ys, h => by
    obtain ⟨its, ls, rfl, hs⟩ := h y (List.mem_cons_self ..)
    obtain ⟨fs, rfl, hfs⟩ := lift_forms (ys := ys) fun z hz => h z (List.mem_cons_of_mem _ hz)
    refine ⟨(its, ls) :: fs, rfl, ?_⟩
    intro t ht
    rcases List.mem_cons.mp ht with rfl | ht
    · exact hs
    · exact hfs t ht
theorem suml_ok (S : Store) (fs : List (List D × List Sg)) (h : (linesOf fs).length ≤ 100000) : sumlD (.lst (fs.map fun f => D.lst (f.2.map .str))) S = .ok (.lst ((linesOf fs).map .str)) S := by
  have h1 : lstsOf (fs.map fun f => D.lst (f.2.map .str)) = some (fs.map fun f => f.2.map .str) := by
    induction fs with
    | nil => rfl
    | cons f fs ih =>
      simp only [List.map_cons, lstsOf]
      rw [ih (by simp [linesOf] at h ⊢; omega)]
      rfl
  have h2 : (fs.map fun f => f.2.map D.str).flatten = (linesOf fs).map .str := by
    simp [linesOf, List.map_flatten, List.map_map, Function.comp_def]
  show (match (some (fs.map fun f => D.lst (f.2.map .str))).bind lstsOf with
    | some ls => if ls.flatten.length ≤ SZ then Ro.ok (D.lst ls.flatten) S else .stuck
    | none => .stuck) = _
  rw [Option.bind_some, h1]
  simp only [h2]
  rw [if_pos (by rw [List.length_map]; exact szz h)]
section
variable (v0 v2 v3 v4 v5 v6 v7 v8 v9 v10 v11 v12 v13 v14 v15 v16 v17 v18 v19 v20 v21 : Option D)
theorem law_forms (S : Store) (n : Nat) (R : Store) (hS : Str S n R) (hn : n + 300 ≤ LIM) :
    ∃ fs S' v7', evSs (pg.cf (callF pg 55)) b_law_1a_0 (lE v0 v2 v3 v4 v5 v6 v7 v8 v9 v10 v11 v12 v13 v14 v15 v16 v17 v18 v19 v20 v21) S = evSs (pg.cf (callF pg 55)) b_law_1a_2 (lE v0 v2 v3 v4 (some (.lst (fs.map fun f => D.lst [.tup f.1, .lst (f.2.map .str)]))) v6 v7' v8 v9 v10 v11 (some (.lst (deedsOf fs))) (some (.lst ((linesOf fs).map .str))) v14 v15 v16 v17 v18 v19 v20 v21) S' ∧ (∀ f ∈ fs, Form 3 f.1 f.2) ∧ 1 ≤ fs.length ∧ fs.length ≤ 6 ∧ Str S' (n + 300) R := by
  obtain ⟨c, S1, e1, hc, hS1⟩ := call_below 54 6 (by decide) (by decide) S n R hS (by omega)
  have e1' : callF pg 55 24 [.obj 1, .int 6] S = .ok (.int (c : Int)) S1 := e1
  obtain ⟨ys, S2, e2, hl2, hq2, hS2⟩ := lc_draw (b := fun x S => (Ro.opt (bindT (.nm 7) x (wipe (lE v0 v2 v3 v4 v5 v6 v7 v8 v9 v10 v11 v12 v13 v14 v15 v16 v17 v18 v19 v20 v21) [7])) S).bind fun e' S => (evIf (pg.cf (callF pg 55)) e' .nil S).bind fun k_1 S => if k_1 = true then (evE (pg.cf (callF pg 55)) e' false (.call 34 (.cons (.var 1) .nil)) S).bind fun d S => .ok (some d) S else .ok none S) R (fun y => ∃ its ls, y = .lst [.tup its, .lst (ls.map D.str)] ∧ Form 3 its ls) 40 LIM (fun x S n' hS hn' => by
      obtain ⟨its, ls, S', e, hf, hS'⟩ := call_form 55 S n' R hS hn' (by decide)
      refine ⟨_, S', ?_, ⟨its, ls, rfl, hf⟩, hS'⟩
      simp_arith [e]) ((List.range (1 + c)).map fun k => D.int (k : Nat)) S1 (n + 1) hS1 (by rw [List.length_map, List.length_range]; omega)
  rw [List.length_map, List.length_range] at hl2 hS2
  obtain ⟨fs, rfl, hfs⟩ := lift_forms hq2
  rw [List.length_map] at hl2
  have h6 : fs.length ≤ 6 := by omega
  obtain ⟨f1, f2, f3⟩ := forms_lines 3 fs hfs
  have hML : M (linesOf fs) ≤ 6 * 164 := Nat.le_trans f2 (Nat.mul_le_mul_right _ h6)
  have hlen := M_len (linesOf fs)
  refine ⟨fs, S2, v7, ?_, hfs, by omega, h6, Str_mono hS2 (by omega)⟩
  have hadd : (1 : Int) + (c : Int) = ((1 + c : Nat) : Int) := by omega
  unfold b_law_1a_0
  rw [evSs_cons, evS_set, evE_lc, tst_f, evR_rng (n := 1 + c) (S' := S1) (by simp_arith [e1', hadd]) (by omega), Ro.bind_ok, e2, Ro.bind_ok, okL, if_pos (by rw [List.length_map]; exact szz (by omega))]
  rw [Ro.bind_ok, Ro.bind_ok, flow_nx]
  have hzf : (fs.map fun f => D.lst [.tup f.1, .lst (f.2.map .str)]).length ≤ SZ := by rw [List.length_map]; exact szz (by omega)
  have m1 := ev_map (cf := pg.cf (callF pg 55)) (e := lE v0 v2 v3 v4 (some (.lst (fs.map fun f => D.lst [.tup f.1, .lst (f.2.map .str)]))) v6 v7 v8 v9 v10 v11 v12 v13 v14 v15 v16 v17 v18 v19 v20 v21) (S := S2) (s := .val (.var 5)) (j := 20) (ex := .idx (.var 20) (.lit (.int 0))) (xs := fs.map fun f => D.lst [.tup f.1, .lst (f.2.map .str)]) (w := []) (by simp_arith []) rfl hzf (fun x => match x with | .lst (a :: _) => a | d => d) (fun x hx => by
    obtain ⟨f, hf, rfl⟩ := List.mem_map.mp hx
    simp_arith [])
  have m2 := ev_map (cf := pg.cf (callF pg 55)) (e := lE v0 v2 v3 v4 (some (.lst (fs.map fun f => D.lst [.tup f.1, .lst (f.2.map .str)]))) v6 v7 v8 v9 v10 v11 v12 v13 v14 v15 v16 v17 v18 v19 v20 v21) (S := S2) (s := .val (.var 5)) (j := 20) (ex := .idx (.var 20) (.lit (.int 1))) (xs := fs.map fun f => D.lst [.tup f.1, .lst (f.2.map .str)]) (w := []) (by simp_arith []) rfl hzf (fun x => match x with | .lst (_ :: b :: _) => b | d => d) (fun x hx => by
    obtain ⟨f, hf, rfl⟩ := List.mem_map.mp hx
    simp_arith [])
  rw [List.map_map] at m1 m2
  have hsu := suml_ok S2 fs (by omega)
  have m1' : evE (pg.cf (callF pg 55)) (lE v0 v2 v3 v4 (some (.lst (fs.map fun f => D.lst [.tup f.1, .lst (f.2.map .str)]))) v6 v7 v8 v9 v10 v11 v12 v13 v14 v15 v16 v17 v18 v19 v20 v21) false (.lc (.val (.var 5)) (.nm 20) [20] .nil (.idx (.var 20) (.lit (.int 0)))) S2 = .ok (.lst (deedsOf fs)) S2 := m1
  have m2' : evE (pg.cf (callF pg 55)) (lE v0 v2 v3 v4 (some (.lst (fs.map fun f => D.lst [.tup f.1, .lst (f.2.map .str)]))) v6 v7 v8 v9 v10 v11 v12 v13 v14 v15 v16 v17 v18 v19 v20 v21) false (.lc (.val (.var 5)) (.nm 20) [20] .nil (.idx (.var 20) (.lit (.int 1)))) S2 = .ok (.lst (fs.map fun f => D.lst (f.2.map .str))) S2 := m2
  unfold b_law_1a_1
  show evSs _ _ (lE v0 v2 v3 v4 (some (.lst (fs.map fun f => D.lst [.tup f.1, .lst (f.2.map .str)]))) v6 v7 v8 v9 v10 v11 v12 v13 v14 v15 v16 v17 v18 v19 v20 v21) S2 = _
  rw [evSs_cons, evS_par, evEs, m1', Ro.bind_ok, evEs, evE_suml, tst_f, m2', Ro.bind_ok, hsu]
  simp_arith []
end
end K85m
namespace K85m
open Pv Pw K85
theorem sd_pair {x : D} (h : x.seen = true ∧ Short x ∧ x.deep ≤ 25) (w : Sg) (hw : okStr w = true) : (D.tup [.str w, x]).seen = true ∧ Short (.tup [.str w, x]) ∧ (D.tup [.str w, x]).deep ≤ 26 := by
  refine ⟨by simp [D.seen, D.seens, hw, h.1], ⟨szz (by simp), trivial, h.2.1, trivial⟩, ?_⟩
  simp only [D.deep, D.deeps]
  have := h.2.2
  omega
theorem rows_of_lines (ls : List Sg) (h : ∀ l ∈ ls, Cln l ∧ l.length ≤ 300) : ∀ l ∈ rows (mtext ls), l.length ≤ 8000 := by
  rw [rows_mtext ls fun l hl c hc => ((h l hl).1 c hc).1]
  intro l hl
  rcases List.mem_append.mp hl with hl | hl
  · have := (h l hl).2; omega
  · rw [List.mem_singleton.mp hl]; exact Nat.zero_le _
section
variable (v0 v2 v3 v4 v5 v6 v7 v8 v9 v10 v11 v14 v15 v16 v17 v18 v19 v20 v21 : Option D)
theorem law_texts (fs : List (List D × List Sg)) (hfs : ∀ f ∈ fs, Form 3 f.1 f.2) (h6 : fs.length ≤ 6) (S : Store) (n : Nat) (R : Store) (hS : Str S n R) :
    ∃ S' v6' v14' v15' R', evSs (pg.cf (callF pg 55)) b_law_1a_2 (lE v0 v2 v3 v4 v5 v6 v7 v8 v9 v10 v11 (some (.lst (deedsOf fs))) (some (.lst ((linesOf fs).map .str))) v14 v15 v16 v17 v18 v19 v20 v21) S = evSs (pg.cf (callF pg 55)) b_law_1a_7 (lE v0 v2 v3 v4 v5 v6' v7 v8 v9 v10 v11 (some (.lst (deedsOf fs))) (some (.lst ((linesOf fs).map .str))) v14' v15' v16 v17 v18 v19 v20 v21) S' ∧ Str S' n R' := by
  obtain ⟨f1, f2, f3⟩ := forms_lines 3 fs hfs
  have hF3 : FL 3 = 124 := rfl
  have hML : M (linesOf fs) ≤ 6 * 164 := Nat.le_trans f2 (Nat.mul_le_mul_right _ h6)
  have hml : (mtext (linesOf fs)).length ≤ 984 := hML
  have hcl : ∀ l ∈ linesOf fs, Cln l ∧ l.length ≤ 300 := fun l hl => ⟨(f1 l hl).1, by have := (f1 l hl).2; omega⟩
  have hokt : okStr (mtext (linesOf fs)) = true := okStr_mtext fun l hl => cln_ok (hcl l hl).1
  have hrw := rows_of_lines (linesOf fs) hcl
  have hback := linesR_back 3 (by decide) fs hfs fun l hl c hc => ((hcl l hl).1 c hc).1
  have hds := deeds_sd (by decide) hfs
  have hdl : (deedsOf fs).length ≤ SZ := by rw [deedsOf, List.length_map]; exact szz (by omega)
  have hrow := sd_row hds hdl
  have c22 : ∀ S, callF pg 55 22 [.lst ((linesOf fs).map .str)] S = .ok (.str (mtext (linesOf fs))) S := fun S => call_mtext 54 (linesOf fs) (by omega) S
  have c26 : ∀ S, callF pg 55 26 [.lst (deedsOf fs)] S = .ok (.lst (deedsOf fs)) S := fun S => call_copied 25 _ (by have := hrow.2.2; omega) hrow.1 hrow.2.1 55 (by decide) S
  have c11a : ∀ S, callF pg 55 11 [.lst (deedsOf fs)] S = .ok (.str (mtext (linesOf fs))) S := fun S => call_dtext 54 3 (by decide) (by decide) false true fs hfs (by omega) S
  have c11b : ∀ S, callF pg 55 11 [.tup (fs.map fun f => .lst f.1)] S = .ok (.str (mtext (linesOf fs))) S := fun S => call_dtext 54 3 (by decide) (by decide) true false fs hfs (by omega) S
  have c20 : ∀ S, callF pg 55 20 [.str (mtext (linesOf fs))] S = .ok (.lst (deedsOf fs)) S := fun S => by
    have := call_read 51 (by decide) (mtext (linesOf fs)) S (by omega) hrw hokt
    rw [hback] at this
    exact this
  have c19 : ∀ S, callF pg 55 19 [.str (mtext (linesOf fs))] S = .ok .non S := fun S => by
    have := call_fault 51 (by decide) (mtext (linesOf fs)) S (by omega) hrw hokt
    rw [hback] at this
    exact this
  have s1 : ∀ S, callF pg 55 27 [.lst (deedsOf fs), .lst (deedsOf fs)] S = .ok (.bl true) S := fun S => call_same 25 _ (by have := hrow.2.2; omega) hrow.1 hrow.2.1 55 (by decide) S
  have ht1 : (D.str (mtext (linesOf fs))).seen = true ∧ Short (.str (mtext (linesOf fs))) ∧ (D.str (mtext (linesOf fs))).deep ≤ 25 := ⟨by simpa [D.seen] using hokt, trivial, Nat.zero_le _⟩
  have p1 := sd_pair ht1 TOLD (by decide)
  have p2 := sd_pair ⟨hrow.1, hrow.2.1, by have := hrow.2.2; omega⟩ TOLD (by decide)
  generalize mtext (linesOf fs) = t at *
  have hpl := sd_list (d := 26) (xs := [.tup [.str TOLD, .str t], .tup [.str TOLD, .str t], .tup [.str TOLD, .lst (deedsOf fs)]]) (fun x hx => by
    (simp only [List.mem_cons, List.not_mem_nil, or_false] at hx)
    rcases hx with rfl | rfl | rfl
    · exact p1
    · exact p1
    · exact p2)
  have hl1 : ∀ S, evE (pg.cf (callF pg 55)) (lE v0 v2 v3 v4 v5 (some (.obj (R.length + 2))) v7 v8 v9 v10 v11 (some (.lst (deedsOf fs))) (some (.lst ((linesOf fs).map .str))) (some (.str t)) (some (.lst (deedsOf fs))) v16 v17 v18 v19 v20 v21) false (.lc (.val (.var 12)) (.nm 21) [21] .nil (.bi .list (.var 21))) S = .ok (.lst (fs.map fun f => .lst f.1)) S := fun S => by
    have hm := ev_map (cf := pg.cf (callF pg 55)) (e := lE v0 v2 v3 v4 v5 (some (.obj (R.length + 2))) v7 v8 v9 v10 v11 (some (.lst (deedsOf fs))) (some (.lst ((linesOf fs).map .str))) (some (.str t)) (some (.lst (deedsOf fs))) v16 v17 v18 v19 v20 v21) (S := S) (s := .val (.var 12)) (j := 21) (ex := .bi .list (.var 21)) (xs := deedsOf fs) (w := []) (by simp_arith []) rfl hdl (fun x => match x with | .tup its => .lst its | d => d) (fun x hx => by
      obtain ⟨f, hf, rfl⟩ := List.mem_map.mp hx
      simp_arith [])
    rw [deedsOf, List.map_map] at hm
    exact hm
  have hSl := Str_len hS
  have hS1 := Str_app hS (.lst [.tup [.str TOLD, .str t]])
  have hS2 := Str_set hS1 R.length (.lst [.tup [.str TOLD, .str t], .tup [.str TOLD, .str t]])
  have hS3 := Str_set hS2 R.length (.lst [.tup [.str TOLD, .str t], .tup [.str TOLD, .str t], .tup [.str TOLD, .lst (deedsOf fs)]])
  have g1 : (S ++ [.lst [.tup [.str TOLD, .str t]]])[R.length + 2]? = some (.lst [.tup [.str TOLD, .str t]]) := by
    rw [← hSl]; simp
  have hlt : R.length + 2 < (S ++ [Cell.lst [.tup [.str TOLD, .str t]]]).length := by simp; omega
  generalize hSA : S ++ [.lst [.tup [.str TOLD, .str t]]] = SA at *
  have g2 : (SA.set (R.length + 2) (.lst [.tup [.str TOLD, .str t], .tup [.str TOLD, .str t]]))[R.length + 2]? = some (.lst [.tup [.str TOLD, .str t], .tup [.str TOLD, .str t]]) := List.getElem?_set_self hlt
  have a1 := me_app (.tup [.str TOLD, .str t]) g1 (show 1 < SZ by decide)
  have a2 := me_app (.tup [.str TOLD, .lst (deedsOf fs)]) g2 (show 2 < SZ by decide)
  simp only [List.cons_append, List.nil_append] at a1 a2
  have hlt2 : R.length + 2 < (SA.set (R.length + 2) (.lst [.tup [.str TOLD, .str t], .tup [.str TOLD, .str t]])).length := by simpa using hlt
  have g3 : ((SA.set (R.length + 2) (.lst [.tup [.str TOLD, .str t], .tup [.str TOLD, .str t]])).set (R.length + 2) (.lst [.tup [.str TOLD, .str t], .tup [.str TOLD, .str t], .tup [.str TOLD, .lst (deedsOf fs)]]))[R.length + 2]? = some (.lst [.tup [.str TOLD, .str t], .tup [.str TOLD, .str t], .tup [.str TOLD, .lst (deedsOf fs)]]) := List.getElem?_set_self hlt2
  have s2 := call_sameL 26 54 _ hpl.2.2 hpl.1 hpl.2.1 (szz (by simp)) (by decide) _ (R.length + 2) g3
  have t1 := meT_app g1
  have t2 := meT_app g2
  generalize (SA.set (R.length + 2) (.lst [.tup [.str TOLD, .str t], .tup [.str TOLD, .str t]])) = SB at *
  generalize (SB.set (R.length + 2) (.lst [.tup [.str TOLD, .str t], .tup [.str TOLD, .str t], .tup [.str TOLD, .lst (deedsOf fs)]])) = SC at *
  refine ⟨SC, some (.obj (R.length + 2)), some (.str t), some (.lst (deedsOf fs)), _, ?_, hS3⟩
  unfold b_law_1a_2
  simp_arith [c22, c26]
  unfold b_law_1a_3
  simp_arith [c11a, grd_ok, hSl]
  have hSA' : S ++ [Cell.lst [.tup [.str [116, 111, 108, 100], .str t]]] = SA := hSA
  rw [hSA']
  unfold b_law_1a_4
  have hl1' := hl1 SA
  have c11b' := c11b SA
  simp_arith [t1, hl1', c11b', grd_ok, a1, meR_some]
  unfold b_law_1a_5
  simp_arith [t2, c20, grd_ok, a2, meR_some]
  unfold b_law_1a_6
  simp_arith [s2, c19, s1]
end
end K85m
namespace K85m
open Pv Pw K85
theorem runR_ge : ∀ (ls : List Sg) (n : Nat) (st : St) (m : Nat), runR st n ls = .inl m → n ≤ m
  | [], n, st, m, h => by cases h
  | l :: ls, n, st, m, h => by
    unfold runR at h
    split at h
    · cases h; exact Nat.le_refl _
    · have := runR_ge ls _ _ _ h; omega
theorem rows_le {t : Sg} (h : t.length ≤ 8000) : ∀ l ∈ rows t, l.length ≤ 8000 := fun l hl => Nat.le_trans (len_split hl) h
section
variable (v0 v2 v3 v4 v5 v6 v7 v8 v9 v10 v11 v14 v15 v16 v17 v18 v19 v20 v21 : Option D)
theorem law_bent1 (dl : D) (ls : List Sg) (hl : SK ls) (hne : ls ≠ []) (hm : M ls ≤ 990) (hl1 : ∀ l ∈ ls, l.length ≤ 300) (S : Store) (n : Nat) (R : Store) (hS : Str S n R) (hn : n + 7 ≤ LIM) :
    ∃ t S' d4 d19, evSs (pg.cf (callF pg 55)) b_law_1a_7a_0 (lE v0 v2 v3 v4 v5 v6 v7 v8 v9 v10 v11 (some dl) (some (.lst (ls.map .str))) v14 v15 v16 v17 v18 v19 v20 v21) S = evSs (pg.cf (callF pg 55)) b_law_1a_7a_4 (lE v0 v2 v3 (some d4) v5 v6 v7 v8 v9 v10 v11 (some dl) (some (.lst (ls.map .str))) v14 v15 (some (.str t)) (some (.lst ((rows t).map .str))) (some (natO (linesR t).2)) d19 v20 v21) S' ∧ ((linesR t).2 = none → d4 = .lst (linesR t).1) ∧ okStr t = true ∧ t.length ≤ 8000 ∧ Str S' (n + 7) R := by
  obtain ⟨t, S', e, hok, hlen, hS'⟩ := call_bent 52 ls n S R hS hn hl hne hm hl1
  have e' : callF pg 55 21 [.obj 1, .lst (ls.map .str), .lst [.str [112, 117, 116], .str [100, 114, 111, 112], .str [99, 104, 97, 110, 103, 101], .str [78], .str [48], .str [49], .str [48, 49], .str [97], .str [65], .str [40, 41], .str [40], .str [91, 49, 44, 93], .str [34], .str [34, 97, 34], .str [45, 48], .str [124], .str [], .str [109, 97, 110, 121]]] S = .ok (.str t) S' := e
  have hsp : ∀ S, meD .split S (.str t) [.str [10]] = some (.lst ((rows t).map .str), S) := fun S => me_split (S := S) 10 t (szz (by omega)) (by decide)
  have hneg : (-(1 : Int)) = -1 := rfl
  have hrne : rows t ≠ [] := splitC_ne 10 t []
  have hdl : ((rows t).map D.str).dropLast = (rows t).dropLast.map .str := List.map_dropLast.symm
  have hrl : (rows t).length ≤ 8001 := Nat.le_trans (splitC_len 10 t []) (by omega)
  have hrun : evSs (pg.cf (callF pg 55)) b_law_1a_7a_0 (lE v0 v2 v3 v4 v5 v6 v7 v8 v9 v10 v11 (some dl) (some (.lst (ls.map .str))) v14 v15 v16 v17 v18 v19 v20 v21) S = evSs (pg.cf (callF pg 55)) b_law_1a_7a_2 (lE v0 v2 v3 v4 v5 v6 v7 v8 v9 v10 v11 (some dl) (some (.lst (ls.map .str))) v14 v15 (some (.str t)) (some (.lst ((rows t).map .str))) v18 v19 v20 v21) S' := by
    unfold b_law_1a_7a_0
    simp_arith [e']
    unfold b_law_1a_7a_1
    simp_arith [meT_split, hsp, meR_some]
  have hmr := call_mread 54 (by decide) (rows t).dropLast S' (by rw [List.length_dropLast]; omega) (fun l hl => by
    have hm : l ∈ rows t := (List.dropLast_sublist _).subset hl
    exact ⟨rows_le hlen l hm, okStr_split hm hok⟩)
  have hlast : atI ((rows t).map D.str) (-1) = some (.str ((rows t).getLast hrne)) := by
    rw [atI_last _ (by simpa using hrne), List.getLast_map]
  have hlR : linesR t = match runR st0 1 (rows t).dropLast with
    | .inl n => ([], some n)
    | .inr st => if (rows t).getLast hrne = [] then (st.found, if st.left = 0 then none else some 0) else ([], some (rows t).length) := by
    unfold linesR
    rw [List.getLast?_eq_some_getLast hrne]
    simp only [Option.some.injEq]
    all_goals (cases runR st0 1 (rows t).dropLast <;> rfl)
  cases hr : runR st0 1 (rows t).dropLast with
  | inl m =>
    rw [hr] at hmr hlR
    simp only [] at hlR
    obtain ⟨found, hmr⟩ := hmr
    have hge := runR_ge _ _ _ _ hr
    have hin : ∀ S, cmD .in_ S (.int (m : Int)) (.tup [.int 0, .non]) = some false := fun S => by
      show some _ = _
      have a1 : ¬ (0 : Int) = m := by omega
      simp [D.flatEq, a1]
    refine ⟨t, S', .lst found, some (.int (m : Int)), hrun.trans ?_, (fun h => by rw [hlR] at h; cases h), hok, hlen, hS'⟩
    have hmr' : callF pg 55 33 [.lst ((rows t).dropLast.map .str)] S' = _ := hmr
    unfold b_law_1a_7a_2
    simp_arith [hneg, hdl, hmr']
    unfold b_law_1a_7a_3
    simp_arith [hin, hlR, natO]
  | inr st =>
    rw [hr] at hmr hlR
    simp only [] at hlR
    have hmr' : callF pg 55 33 [.lst ((rows t).dropLast.map .str)] S' = _ := hmr
    have hin : ∀ S, cmD .in_ S (if st.left = 0 then .non else .int 0) (.tup [.int 0, .non]) = some true := fun S => by
      split <;> rfl
    by_cases hc : (rows t).getLast hrne = []
    · have d1 : decide ((rows t).getLast hrne = []) = true := decide_eq_true hc
      rw [if_pos hc] at hlR
      refine ⟨t, S', .lst st.found, some (if st.left = 0 then .non else .int 0), hrun.trans ?_, fun _ => by rw [hlR], hok, hlen, hS'⟩
      have hn : natO (linesR t).2 = if st.left = 0 then .non else .int 0 := by rw [hlR]; by_cases h : st.left = 0 <;> simp [h, natO]
      rw [hn]
      generalize (if st.left = 0 then D.non else .int 0) = q at *
      unfold b_law_1a_7a_2
      simp_arith [hneg, hdl, hmr']
      unfold b_law_1a_7a_3
      simp_arith [hin, hneg, hlast, d1]
    · have d1 : decide ((rows t).getLast hrne = []) = false := decide_eq_false hc
      rw [if_neg hc] at hlR
      refine ⟨t, S', .lst st.found, some (if st.left = 0 then .non else .int 0), hrun.trans ?_, (fun h => by rw [hlR] at h; cases h), hok, hlen, hS'⟩
      have hn : natO (linesR t).2 = .int ((rows t).length : Int) := by rw [hlR]; rfl
      rw [hn]
      generalize (if st.left = 0 then D.non else .int 0) = q at *
      unfold b_law_1a_7a_2
      simp_arith [hneg, hdl, hmr']
      unfold b_law_1a_7a_3
      simp_arith [hin, hneg, hlast, d1, List.length_map]
theorem natO_sd (o : Option Nat) : (natO o).seen = true ∧ Short (natO o) ∧ (natO o).deep ≤ 25 := by cases o <;> exact ⟨rfl, trivial, Nat.zero_le _⟩
theorem law_bent (dl : D) (ls : List Sg) (hl : SK ls) (hne : ls ≠ []) (hm : M ls ≤ 990) (hl1 : ∀ l ∈ ls, l.length ≤ 300) (S : Store) (n : Nat) (R : Store) (hS : Str S n R) (hn : n + 7 ≤ LIM) :
    ∃ S' d4 d16 d17 d18 d19, evSs (pg.cf (callF pg 55)) b_law_1a_7a_0 (lE v0 v2 v3 v4 v5 v6 v7 v8 v9 v10 v11 (some dl) (some (.lst (ls.map .str))) v14 v15 v16 v17 v18 v19 v20 v21) S = .ok (.nx (lE v0 v2 v3 d4 v5 v6 v7 v8 v9 v10 v11 (some dl) (some (.lst (ls.map .str))) v14 v15 d16 d17 d18 d19 v20 v21)) S' ∧ Str S' (n + 7) R := by
  obtain ⟨t, S', d4, d19, e, h4, hok, hlen, hS'⟩ := law_bent1 v0 v2 v3 v4 v5 v6 v7 v8 v9 v10 v11 v14 v15 v16 v17 v18 v19 v20 v21 dl ls hl hne hm hl1 S n R hS hn
  refine ⟨S', some d4, some (.str t), some (.lst ((rows t).map .str)), some (natO (linesR t).2), d19, e.trans ?_, hS'⟩
  have c19 : ∀ S, callF pg 55 19 [.str t] S = .ok (natO (linesR t).2) S := fun S => call_fault 51 (by decide) t S (by omega) (rows_le hlen) hok
  have c20 : ∀ S, callF pg 55 20 [.str t] S = _ := fun S => call_read 51 (by decide) t S (by omega) (rows_le hlen) hok
  have hq := natO_sd (linesR t).2
  have hsq := linesR_sd t (by omega) (rows_le hlen) hok
  have hrow := sd_row hsq.1 hsq.2
  have hpl := sd_list (d := 25) (xs := [natO (linesR t).2, natO (linesR t).2]) (fun x hx => by
    (simp only [List.mem_cons, List.not_mem_nil, or_false] at hx)
    rcases hx with rfl | rfl <;> exact hq)
  have s1 : ∀ S, callF pg 55 27 [.lst [natO (linesR t).2, natO (linesR t).2], .lst [natO (linesR t).2, natO (linesR t).2]] S = .ok (.bl true) S := fun S => call_same 26 (.lst [natO (linesR t).2, natO (linesR t).2]) (by simp only [D.deep]; have := hpl.2.2; omega) (by simpa [D.seen] using hpl.1) ⟨szz (by simp), hpl.2.1⟩ 55 (by decide) S
  unfold b_law_1a_7a_4
  simp_arith [c19, s1]
  unfold b_law_1a_7a_5
  cases hn2 : (linesR t).2 with
  | none =>
    rw [h4 hn2]
    simp only [hn2] at c20
    have p := sd_pair ⟨hrow.1, hrow.2.1, by have := hrow.2.2; omega⟩ TOLD (by decide)
    have s2 : ∀ S, callF pg 55 27 [.tup [.str [116, 111, 108, 100], .lst (linesR t).1], .tup [.str [116, 111, 108, 100], .lst (linesR t).1]] S = .ok (.bl true) S := fun S => call_same 26 _ p.2.2 p.1 p.2.1 55 (by decide) S
    simp_arith [c20, grd_ok, natO, s2]
  | some m =>
    simp only [hn2] at c20
    have p := sd_pair (x := .int (m : Int)) ⟨rfl, trivial, Nat.zero_le _⟩ LINE (by decide)
    have s2 : ∀ S, callF pg 55 27 [.tup [.str [108, 105, 110, 101], .int (m : Int)], .tup [.str [108, 105, 110, 101], .int (m : Int)]] S = .ok (.bl true) S := fun S => call_same 26 _ p.2.2 p.1 p.2.1 55 (by decide) S
    simp_arith [c20, grd_err1, natO, s2]
end
end K85m
namespace K85m
open Pv Pw K85
theorem pure_any {P : Pg} {k f : Nat} {ds : List D} {d : D} (hp : D.pures ds = true) (fn : Fn) (hfn : P.fns[f]? = some fn) (hl : fn.lv = false) (h : callF P (k + 1) f ds [] = .ok d []) (S : Store) : callF P (k + 1) f ds S = .ok d S := by
  have hh : (fn.lv || !D.pures ds) = false := by simp [hp, hl]
  rw [call_pure fn hfn hh] at h ⊢
  generalize runB (P.cf (callF P k)) fn ds [] = r at *
  cases r with
  | ok d' S' =>
    simp only [done] at h ⊢
    cases hf : frzD S' d' with
    | none => (rw [hf] at h; cases h)
    | some x => rw [hf] at h; cases h; rfl
  | err c as S' =>
    simp only [done] at h
    split at h <;> cases h
  | stuck => cases h
def isNonR (r : Ro D) : Bool := match r with
  | .ok .non [] => true
  | _ => false
theorem isNonR_eq {r : Ro D} (h : isNonR r = true) : r = .ok .non [] := by
  unfold isNonR at h
  split at h
  · rfl
  · cases h
def deepD : D := .tup [.tup [.tup [.tup [.tup [.tup [.tup [.tup [.int 1]]]]]]]]
/-- what is no deed -/
def OD : List D := [.non, .int 5, .tup [.str [115, 116, 111, 112]], .tup [.str [100, 114, 111, 112]], .tup [.str [100, 114, 111, 112], .str [65]], .tup [.str [100, 114, 111, 112], .str [97], .int 1], .tup [.str [112, 117, 116], .str [97], .str [112]], .tup [.str [112, 117, 116], .str [97], .str [80], .tup []], .tup [.str [112, 117, 116], .str [97], .str [112], .edc], .tup [.str [112, 117, 116], .str [97], .str [112], .bl true],
  .tup [.str [112, 117, 116], .str [97], .str [112], .str [65]], .tup [.str [112, 117, 116], .str [97], .str [112], .tup [.int 1000000000]], .tup [.str [112, 117, 116], .str [97], .str [112], .tup [deepD]], .tup [.str [112, 117, 116], .str [109, 97, 110, 121], .str [112], .tup []], .tup [],
  .tup [.str [99, 104, 97, 110, 103, 101], .str [97]], .tup [.str [99, 104, 97, 110, 103, 101], .non]]
theorem od_test : OD.all (fun o => isNonR (callF pg 54 9 [o] []) && D.pures [o]) = true := by decide +kernel
def longT : Sg := List.replicate 8000 97 ++ [10]
def ODl : D := .tup [.str [99, 104, 97, 110, 103, 101], .str longT]
theorem longT_len : longT.length = 8001 := by simp [longT]
theorem call_long (k : Nat) (S : Store) : callF pg (k + 1) 3 [.str longT] S = .ok (.bl false) S := by
  have hl := longT_len
  have h1 : longT.length ≤ SZ := szz (by omega)
  have h2 : ((longT.length : Int) ≤ 8000) = False := eq_false (by omega)
  generalize longT = s at *
  refine call_ok ⟨1, 1, false, b_is_lines⟩ [some (.str s)] rfl rfl rfl rfl ?_ rfl (S' := [])
  unfold b_is_lines
  simp_arith [lenS _ _ h1, gl5, h2]
theorem odl_non (S : Store) : callF pg 54 9 [ODl] S = .ok .non S := by
  have hde := fun S => call_isdeed 52 false CHG [.str longT] 2 S rfl (.inr (.inr ⟨rfl, rfl⟩)) rfl
  have hde' : ∀ S, callF pg 53 2 [.tup [.str CHG, .str longT]] S = .ok (.bl true) S := hde
  have hli : ∀ S, callF pg 53 3 [.str longT] S = .ok (.bl false) S := fun S => call_long 52 S
  have d1 : decide (CHG = [99, 104, 97, 110, 103, 101]) = true := by decide
  unfold ODl
  show callF pg (53 + 1) 9 [.tup [.str CHG, .str longT]] S = _
  generalize longT = s at *
  refine call_ok ⟨1, 1, false, b_plain_deed_0⟩ [some (.tup [.str CHG, .str s])] rfl rfl rfl rfl ?_ rfl (S' := [])
  unfold b_plain_deed_0
  simp_arith [hde']
  unfold b_plain_deed_1
  simp_arith [d1, hli]
theorem odd_ok : ∀ o ∈ OD ++ [ODl], (∀ S, callF pg 54 9 [o] S = .ok .non S) ∧ o.pure = true := by
  intro o ho
  rcases List.mem_append.mp ho with ho | ho
  · have := List.all_eq_true.mp od_test o ho
    simp only [Bool.and_eq_true] at this
    refine ⟨fun S => pure_any (k := 53) this.2 ⟨1, 1, false, b_plain_deed⟩ rfl rfl (isNonR_eq this.1) S, ?_⟩
    have h2 := this.2
    simpa [D.pures] using h2
  · rw [List.mem_singleton.mp ho]
    exact ⟨odl_non, rfl⟩
theorem pures_app {a b : List D} (h : D.pures a = true) (h2 : D.pures b = true) : D.pures (a ++ b) = true := by
  induction a with
  | nil => exact h2
  | cons x a ih =>
    simp only [D.pures, Bool.and_eq_true] at h
    simp [D.pures, h.1, ih h.2]
theorem pures_all {a : List D} (h : ∀ x ∈ a, x.pure = true) : D.pures a = true := by
  induction a with
  | nil => rfl
  | cons x a ih => simp [D.pures, h x (List.mem_cons_self ..), ih fun y hy => h y (List.mem_cons_of_mem _ hy)]
theorem mulS (S : Store) (c n : Nat) (h : n ≤ 100000) : opD .mul S (.str [c]) (.int (n : Int)) = some (.str (List.replicate n c)) := by
  have e : (List.replicate n [c]).flatten = List.replicate n c := by
    induction n with
    | zero => rfl
    | succ n ih => rw [List.replicate_succ, List.flatten_cons, ih (by omega)]; rfl
  show (if [c].length * (n : Int).toNat ≤ SZ ∧ 0 ≤ (n : Int) ∧ (n : Int) ≤ 1000000 then some (D.str (List.replicate (n : Int).toNat [c]).flatten) else none) = _
  rw [if_pos ⟨szz (by simp; omega), by omega, by omega⟩, Int.toNat_natCast, e]
/-- a loop that draws -/
theorem for_draw {b : D → Env → Store → Ro Fl} (I : Nat → Env → Store → Prop) (cost top : Nat) : ∀ (xs : List D) (e : Env) (S : Store) (n : Nat), (∀ x ∈ xs, ∀ e S n, I n e S → n + cost ≤ top → ∃ e' S', b x e S = .ok (.nx e') S' ∧ I (n + cost) e' S') → I n e S → n + cost * xs.length ≤ top → ∃ e' S', forLoop b [] xs e S = .ok (.nx e') S' ∧ I (n + cost * xs.length) e' S'
  | [], e, S, n, hb, hI, ht => ⟨e, S, rfl, hI⟩
  | x :: xs, e, S, n, hb, hI, ht => by
    simp only [List.length_cons, Nat.mul_add, Nat.mul_one] at ht ⊢
    obtain ⟨e1, S1, h1, hI1⟩ := hb x (List.mem_cons_self ..) e S n hI (by omega)
    obtain ⟨e2, S2, h2, hI2⟩ := for_draw I cost top xs e1 S1 (n + cost) (fun y hy => hb y (List.mem_cons_of_mem _ hy)) hI1 (by omega)
    exact ⟨e2, S2, (for_next h1 rfl).trans h2, by rw [show n + (cost * xs.length + cost) = n + cost + cost * xs.length by omega]; exact hI2⟩
end K85m
namespace K85m
open Pv Pw K85
section
variable (v0 v2 v3 v5 v6 v14 v15 v20 v21 : Option D)
theorem law_again (v4 v7 v8 v9 v10 v11 v16 v17 v18 v19 : Option D) (dl : D) (ls : List Sg) (hl : SK ls) (hne : ls ≠ []) (hm : M ls ≤ 990) (hl1 : ∀ l ∈ ls, l.length ≤ 300) (S : Store) (n : Nat) (R : Store) (hS : Str S n R) (hn : n + 100 ≤ LIM) :
    ∃ S' d4 d7 d16 d17 d18 d19, evSs (pg.cf (callF pg 55)) b_law_1a_7 (lE v0 v2 v3 v4 v5 v6 v7 v8 v9 v10 v11 (some dl) (some (.lst (ls.map .str))) v14 v15 v16 v17 v18 v19 v20 v21) S = evSs (pg.cf (callF pg 55)) b_law_1a_8 (lE v0 v2 v3 d4 v5 v6 d7 v8 v9 v10 v11 (some dl) (some (.lst (ls.map .str))) v14 v15 d16 d17 d18 d19 v20 v21) S' ∧ Str S' (n + 100) R := by
  have hR : evR (pg.cf (callF pg 55)) (lE v0 v2 v3 v4 v5 v6 v7 v8 v9 v10 v11 (some dl) (some (.lst (ls.map .str))) v14 v15 v16 v17 v18 v19 v20 v21) (.rng (.lit (.int 14))) S = .ok ((List.range 14).map fun k => D.int (k : Nat), []) S := evR_rng (n := 14) (by simp_arith []; rfl) (by decide)
  obtain ⟨e', S', h1, d4, d7, d16, d17, d18, d19, rfl, hS'⟩ := for_draw (b := fun x e S => (Ro.opt (bindT (.nm 7) x e) S).bind fun e S => evSs (pg.cf (callF pg 55)) b_law_1a_7a_0 e S)
    (fun n e S => ∃ d4 d7 d16 d17 d18 d19, e = lE v0 v2 v3 d4 v5 v6 d7 v8 v9 v10 v11 (some dl) (some (.lst (ls.map .str))) v14 v15 d16 d17 d18 d19 v20 v21 ∧ Str S n R) 7 (n + 100) ((List.range 14).map fun k => D.int (k : Nat)) (lE v0 v2 v3 v4 v5 v6 v7 v8 v9 v10 v11 (some dl) (some (.lst (ls.map .str))) v14 v15 v16 v17 v18 v19 v20 v21) S n
    (fun x hx e S n' hI hn' => by
      obtain ⟨d4, d7, d16, d17, d18, d19, rfl, hS⟩ := hI
      obtain ⟨S', a4, a16, a17, a18, a19, he, hS'⟩ := law_bent v0 v2 v3 d4 v5 v6 (some x) v8 v9 v10 v11 v14 v15 d16 d17 d18 d19 v20 v21 dl ls hl hne (by omega) hl1 S n' R hS (by omega)
      exact ⟨_, S', he, a4, some x, a16, a17, a18, a19, rfl, hS'⟩)
    ⟨v4, v7, v16, v17, v18, v19, rfl, hS⟩ (by rw [List.length_map, List.length_range]; omega)
  refine ⟨S', d4, d7, d16, d17, d18, d19, ?_, Str_mono hS' (by rw [List.length_map, List.length_range]; omega)⟩
  unfold b_law_1a_7
  rw [evSs_cons, evS_for, hR, Ro.bind_ok]
  rw [show forR (pg.cf (callF pg 55)) (.nm 7) b_law_1a_7a_0 (lE v0 v2 v3 v4 v5 v6 v7 v8 v9 v10 v11 (some dl) (some (.lst (ls.map .str))) v14 v15 v16 v17 v18 v19 v20 v21) ((List.range 14).map fun k => D.int (k : Nat), []) S = _ from h1]
  rw [Ro.bind_ok, flow_nx]
theorem forms_pures {d : Nat} {fs : List (List D × List Sg)} (h : ∀ f ∈ fs, Form d f.1 f.2) : D.pures (deedsOf fs) = true :=
  pures_all fun x hx => by
    obtain ⟨f, hf, rfl⟩ := List.mem_map.mp hx
    simpa [D.pure] using form_pures (h f hf)
theorem law_odd (v4 v7 v9 v10 v13 v16 v17 v18 v19 : Option D) (fs : List (List D × List Sg)) (hfs : ∀ f ∈ fs, Form 3 f.1 f.2) (h6 : fs.length ≤ 6) (a : Nat) (ha : a ≤ fs.length) (x : D) (hx : x ∈ OD ++ [ODl]) (S : Store) :
    evSs (pg.cf (callF pg 55)) b_law_1a_13a_0 (lE v0 v2 v3 v4 v5 v6 v7 (some (.int (a : Int))) v9 v10 (some x) (some (.lst (deedsOf fs))) v13 v14 v15 v16 v17 v18 v19 v20 v21) S = .ok (.nx (lE v0 v2 v3 v4 v5 v6 v7 (some (.int (a : Int))) v9 v10 (some x) (some (.lst (deedsOf fs))) v13 v14 v15 v16 v17 v18 v19 v20 v21)) S := by
  obtain ⟨ho, hp⟩ := odd_ok x hx
  have hft : ∀ f ∈ fs.take a, Form 3 f.1 f.2 := fun f hf => hfs f (List.mem_of_mem_take hf)
  have hfp := forms_pures hfs
  have hfp2 : D.pures ((deedsOf fs).drop a ++ [.non]) = true := pures_app (pures_all fun y hy => by
    obtain ⟨f, hf, rfl⟩ := List.mem_map.mp (List.mem_of_mem_drop hy)
    simpa [D.pure] using form_pures (hfs f hf)) rfl
  have hlen : (linesOf (fs.take a)).length ≤ 100000 := by
    obtain ⟨f1, f2, f3⟩ := forms_lines 3 (fs.take a) hft
    have := M_len (linesOf (fs.take a))
    have h3 : (fs.take a).length * (40 + FL 3) ≤ 6 * 164 := Nat.mul_le_mul_right _ (by simp; omega)
    omega
  have hd := fun S => call_dodd 54 3 (by decide) (by decide) (fs.take a) hft hlen x ((deedsOf fs).drop a ++ [.non]) ho (pures_app (forms_pures hft) (by simp only [D.pures, hp, Bool.true_and]; exact hfp2)) S
  have hal : (fs.take a).length = a := by rw [List.length_take]; omega
  have hdl : (deedsOf fs).length ≤ 6 := by rw [deedsOf, List.length_map]; exact h6
  have e1 : (deedsOf fs).take a ++ [x] ++ (deedsOf fs).drop a ++ [.non] = (fs.take a).map (fun f => D.tup f.1) ++ x :: ((deedsOf fs).drop a ++ [.non]) := by simp [deedsOf]
  rw [← e1, hal] at hd
  have hd' : ∀ S, callF pg 55 11 [.lst ((deedsOf fs).take a ++ [x] ++ (deedsOf fs).drop a ++ [.non])] S = .err 0 [.int (a : Int)] S := hd
  have o1 := fun S => opAl S ((deedsOf fs).take a) [x] (szz (by simp; omega))
  have o2 := fun S => opAl S ((deedsOf fs).take a ++ [x]) ((deedsOf fs).drop a) (szz (by simp; omega))
  have o3 := fun S => opAl S ((deedsOf fs).take a ++ [x] ++ (deedsOf fs).drop a) [.non] (szz (by simp; omega))
  have p := sd_pair (x := .int (a : Int)) ⟨rfl, trivial, Nat.zero_le _⟩ DEEDw (by decide)
  have s2 : ∀ S, callF pg 55 27 [.tup [.str [100, 101, 101, 100], .int (a : Int)], .tup [.str [100, 101, 101, 100], .int (a : Int)]] S = .ok (.bl true) S := fun S => call_same 26 _ p.2.2 p.1 p.2.1 55 (by decide) S
  unfold b_law_1a_13a_0
  simp_arith [o1, o2, o3, hd', grd_err0, s2]
theorem law_odds (v4 v7 v8 v9 v10 v11 v13 v16 v17 v18 v19 : Option D) (fs : List (List D × List Sg)) (hfs : ∀ f ∈ fs, Form 3 f.1 f.2) (h6 : fs.length ≤ 6) (S : Store) (n : Nat) (R : Store) (hS : Str S n R) (hn : n + 1 ≤ LIM) :
    ∃ S' d8 d10 d11, evSs (pg.cf (callF pg 55)) b_law_1a_8 (lE v0 v2 v3 v4 v5 v6 v7 v8 v9 v10 v11 (some (.lst (deedsOf fs))) v13 v14 v15 v16 v17 v18 v19 v20 v21) S = evSs (pg.cf (callF pg 55)) b_law_1a_14 (lE v0 v2 v3 v4 v5 v6 v7 d8 (some deepD) d10 d11 (some (.lst (deedsOf fs))) v13 v14 v15 v16 v17 v18 v19 v20 v21) S' ∧ Str S' (n + 1) R := by
  have hdl : (deedsOf fs).length = fs.length := by rw [deedsOf, List.length_map]
  obtain ⟨a, S1, e1, ha, hS1⟩ := call_below 54 (fs.length + 1) (by omega) (by omega) S n R hS (by omega)
  have e1' : callF pg 55 24 [.obj 1, .int ((fs.length + 1 : Nat) : Int)] S = .ok (.int (a : Int)) S1 := e1
  have hdl' : (((deedsOf fs).length : Nat) : Int) = (fs.length : Int) := by rw [hdl]
  have hmul : ∀ S, opD .mul S (.str [97]) (.int 8000) = some (.str (List.replicate 8000 97)) := fun S => mulS S 97 8000 (by decide)
  have hadd := fun S => opAs S (List.replicate 8000 97) [10] (szz (by simp))
  have hlong : List.replicate 8000 97 ++ [10] = longT := rfl
  rw [hlong] at hadd
  generalize List.replicate 8000 97 = as at hmul hadd
  obtain ⟨e', S', h1, d11, rfl, hS'⟩ := for_draw (b := fun x e S => (Ro.opt (bindT (.nm 11) x e) S).bind fun e S => evSs (pg.cf (callF pg 55)) b_law_1a_13a_0 e S)
    (fun n e S => ∃ d11, e = lE v0 v2 v3 v4 v5 v6 v7 (some (.int (a : Int))) (some deepD) (some (.lst (OD ++ [ODl]))) d11 (some (.lst (deedsOf fs))) v13 v14 v15 v16 v17 v18 v19 v20 v21 ∧ S = S1) 0 0 (OD ++ [ODl]) (lE v0 v2 v3 v4 v5 v6 v7 (some (.int (a : Int))) (some deepD) (some (.lst (OD ++ [ODl]))) v11 (some (.lst (deedsOf fs))) v13 v14 v15 v16 v17 v18 v19 v20 v21) S1 0
    (fun x hx e S n' hI hn' => by
      obtain ⟨d11, rfl, rfl⟩ := hI
      exact ⟨_, S, law_odd v0 v2 v3 v5 v6 v14 v15 v20 v21 v4 v7 (some deepD) (some (.lst (OD ++ [ODl]))) v13 v16 v17 v18 v19 fs hfs h6 a (by omega) x hx S, some x, rfl, rfl⟩)
    ⟨v11, rfl, rfl⟩ (by simp)
  subst hS'
  refine ⟨S', some (.int (a : Int)), some (.lst (OD ++ [ODl])), d11, ?_, hS1⟩
  have hrun : evSs (pg.cf (callF pg 55)) b_law_1a_8 (lE v0 v2 v3 v4 v5 v6 v7 v8 v9 v10 v11 (some (.lst (deedsOf fs))) v13 v14 v15 v16 v17 v18 v19 v20 v21) S = evSs (pg.cf (callF pg 55)) b_law_1a_13 (lE v0 v2 v3 v4 v5 v6 v7 (some (.int (a : Int))) (some deepD) (some (.lst (OD ++ [ODl]))) v11 (some (.lst (deedsOf fs))) v13 v14 v15 v16 v17 v18 v19 v20 v21) S' := by
    unfold b_law_1a_8
    simp_arith [hdl', e1']
    unfold b_law_1a_9
    simp_arith []
    unfold b_law_1a_10
    simp_arith []
    unfold b_law_1a_11
    simp_arith [opAl]
    unfold b_law_1a_12
    simp_arith [hmul, hadd, opAl]
    simp only [OD, ODl, deepD, List.cons_append, List.nil_append]
  rw [hrun]
  have hR : evR (pg.cf (callF pg 55)) (lE v0 v2 v3 v4 v5 v6 v7 (some (.int (a : Int))) (some deepD) (some (.lst (OD ++ [ODl]))) v11 (some (.lst (deedsOf fs))) v13 v14 v15 v16 v17 v18 v19 v20 v21) (.val (.var 10)) S' = .ok (OD ++ [ODl], []) S' := by simp_arith []
  unfold b_law_1a_13
  rw [evSs_cons, evS_for, hR, Ro.bind_ok]
  rw [show forR (pg.cf (callF pg 55)) (.nm 11) b_law_1a_13a_0 (lE v0 v2 v3 v4 v5 v6 v7 (some (.int (a : Int))) (some deepD) (some (.lst (OD ++ [ODl]))) v11 (some (.lst (deedsOf fs))) v13 v14 v15 v16 v17 v18 v19 v20 v21) (OD ++ [ODl], []) S' = _ from h1]
  rw [Ro.bind_ok, flow_nx]
end
end K85m
namespace K85m
open Pv Pw K85
theorem deep_thing : Thing 8 deepD := by
  have h1 : Thing 0 (.int 1) := .leaf 0 _ (.inr (.inl ⟨1, rfl, by decide⟩))
  have up : ∀ d x, Thing d x → Thing (d + 1) (.tup [x]) := fun d x h => .tup d [x] (fun y hy => by rw [List.mem_singleton.mp hy]; exact h) (by simp)
  exact up _ _ (up _ _ (up _ _ (up _ _ (up _ _ (up _ _ (up _ _ (up _ _ h1)))))))
def fs8 : List (List D × List Sg) := [([.str PUT, .str [97], .str [112], deepD], [PUTs ++ [97] ++ Ps ++ flat deepD])]
theorem fs8_ok : ∀ f ∈ fs8, Form 8 f.1 f.2 := by
  intro f hf
  rw [List.mem_singleton.mp hf]
  exact .put [97] deepD (by decide) deep_thing
theorem text8 : ∃ t, (∀ S, callF pg 55 11 [.lst (deedsOf fs8)] S = .ok (.str t) S) ∧ ∀ S, callF pg 55 20 [.str t] S = .ok (.lst (deedsOf fs8)) S := by
  obtain ⟨f1, f2, f3⟩ := forms_lines 8 fs8 fs8_ok
  have hF : FL 8 ≤ 5000 := FL_8
  have hM : M (linesOf fs8) ≤ 1 * (40 + FL 8) := f2
  have hml : (mtext (linesOf fs8)).length ≤ 5040 := by
    have : M (linesOf fs8) = (mtext (linesOf fs8)).length := rfl
    omega
  have h10 : ∀ l ∈ linesOf fs8, ∀ c ∈ l, c ≠ 10 := fun l hl c hc => ((f1 l hl).1 c hc).1
  have hokt : okStr (mtext (linesOf fs8)) = true := okStr_mtext fun l hl => cln_ok (f1 l hl).1
  have hrw : ∀ l ∈ rows (mtext (linesOf fs8)), l.length ≤ 8000 := by
    rw [rows_mtext _ h10]
    intro l hl
    rcases List.mem_append.mp hl with hl | hl
    · have := (f1 l hl).2; omega
    · rw [List.mem_singleton.mp hl]; exact Nat.zero_le _
  have hback := linesR_back 8 (by decide) fs8 fs8_ok h10
  refine ⟨mtext (linesOf fs8), fun S => call_dtext 54 8 (by decide) (by decide) false true fs8 fs8_ok (by omega) S, fun S => ?_⟩
  have := call_read 51 (by decide) (mtext (linesOf fs8)) S (by omega) hrw hokt
  rw [hback] at this
  exact this
section
variable (v0 v2 v3 v5 v6 v7 v8 v10 v12 v13 v14 v15 v16 v17 v18 v19 v20 v21 : Option D)
theorem law_deep (v4 v11 : Option D) (S : Store) :
    evSs (pg.cf (callF pg 55)) b_law_1a_14 (lE v0 v2 v3 v4 v5 v6 v7 v8 (some deepD) v10 v11 v12 v13 v14 v15 v16 v17 v18 v19 v20 v21) S = evSs (pg.cf (callF pg 55)) b_law_1a_15 (lE v0 v2 v3 v4 v5 v6 v7 v8 (some deepD) v10 v11 v12 v13 v14 v15 v16 v17 v18 v19 v20 v21) S := by
  obtain ⟨t, h1, h2⟩ := text8
  have h1' : ∀ S, callF pg 55 11 [.lst [.tup [.str [112, 117, 116], .str [97], .str [112], deepD]]] S = .ok (.str t) S := h1
  have h2' : ∀ S, callF pg 55 20 [.str t] S = .ok (.lst [.tup [.str [112, 117, 116], .str [97], .str [112], deepD]]) S := h2
  have hrow := sd_row (deeds_sd (by decide) fs8_ok) (by decide)
  have hrow' : (D.lst [.tup [.str [112, 117, 116], .str [97], .str [112], deepD]]).seen = true ∧ Short (.lst [.tup [.str [112, 117, 116], .str [97], .str [112], deepD]]) ∧ (D.lst [.tup [.str [112, 117, 116], .str [97], .str [112], deepD]]).deep ≤ 21 := hrow
  have s1 : ∀ S, callF pg 55 27 [.lst [.tup [.str [112, 117, 116], .str [97], .str [112], deepD]], .lst [.tup [.str [112, 117, 116], .str [97], .str [112], deepD]]] S = .ok (.bl true) S := fun S => call_same 26 _ (by have := hrow'.2.2; omega) hrow'.1 hrow'.2.1 55 (by decide) S
  unfold b_law_1a_14
  simp_arith [h1', h2', s1]
def FOUR : List D := [.non, .int 5, .str [97, 98], .edc]
theorem law_four (v4 v9 : Option D) (x : D) (hx : x ∈ FOUR) (S : Store) (n : Nat) (R : Store) (hS : Str S n R) :
    ∃ S' d4 R', evSs (pg.cf (callF pg 55)) b_law_1a_15a_0 (lE v0 v2 v3 v4 v5 v6 v7 v8 v9 v10 (some x) v12 v13 v14 v15 v16 v17 v18 v19 v20 v21) S = .ok (.nx (lE v0 v2 v3 d4 v5 v6 v7 v8 v9 v10 (some x) v12 v13 v14 v15 v16 v17 v18 v19 v20 v21)) S' ∧ Str S' n R' := by
  obtain ⟨hp, hi⟩ : x.pure = true ∧ ∀ S, isiD S x [.list, .tuple] = some false := by
    simp only [FOUR, List.mem_cons, List.not_mem_nil, or_false] at hx
    rcases hx with rfl | rfl | rfl | rfl <;> exact ⟨rfl, fun _ => rfl⟩
  have c11 : ∀ S, callF pg 55 11 [x] S = .err 0 [.int 0] S := fun S => call_dnone 54 x hp hi S
  have hpl : (D.lst [x]).pure = true := by simp [D.pure, D.pures, hp]
  have c20 : ∀ S, callF pg 55 20 [.lst [x]] S = .err 1 [.int 0] S := fun S => call_rnone 52 (.lst [x]) hpl (fun _ => rfl) S
  have c19 : ∀ S, callF pg 55 19 [.lst [x]] S = .ok (.int 0) S := fun S => call_fnone 52 (.lst [x]) hpl (fun _ => rfl) S
  have hSl := Str_len hS
  have hS1 := Str_app hS (.lst [.tup [.str DEEDw, .int 0]])
  have hS2 := Str_set hS1 R.length (.lst [.tup [.str DEEDw, .int 0], .tup [.str LINE, .int 0]])
  have g1 : (S ++ [.lst [.tup [.str DEEDw, .int 0]]])[R.length + 2]? = some (.lst [.tup [.str DEEDw, .int 0]]) := by
    rw [← hSl]; simp
  have hlt : R.length + 2 < (S ++ [Cell.lst [.tup [.str DEEDw, .int 0]]]).length := by simp; omega
  generalize hSA : S ++ [.lst [.tup [.str DEEDw, .int 0]]] = SA at *
  have g2 : (SA.set (R.length + 2) (.lst [.tup [.str DEEDw, .int 0], .tup [.str LINE, .int 0]]))[R.length + 2]? = some (.lst [.tup [.str DEEDw, .int 0], .tup [.str LINE, .int 0]]) := List.getElem?_set_self hlt
  have a1 := me_app (.tup [.str LINE, .int 0]) g1 (show 1 < SZ by decide)
  simp only [List.cons_append, List.nil_append] at a1
  have t1 := meT_app g1
  have s2 := call_sameL 26 54 [.tup [.str DEEDw, .int 0], .tup [.str LINE, .int 0]] (by decide) (by decide) ⟨⟨szz (by simp), trivial, trivial, trivial⟩, ⟨szz (by simp), trivial, trivial, trivial⟩, trivial⟩ (szz (by simp)) (by decide) _ (R.length + 2) g2
  have s3 : ∀ S, callF pg 55 27 [.int 0, .int 0] S = .ok (.bl true) S := fun S => call_same 26 (.int 0) (by decide) rfl trivial 55 (by decide) S
  generalize (SA.set (R.length + 2) (.lst [.tup [.str DEEDw, .int 0], .tup [.str LINE, .int 0]])) = SB at *
  refine ⟨SB, some (.obj (R.length + 2)), _, ?_, hS2⟩
  unfold b_law_1a_15a_0
  simp_arith [c11, grd_err0, hSl]
  have hSA' : S ++ [Cell.lst [.tup [.str [100, 101, 101, 100], .int 0]]] = SA := hSA
  rw [hSA']
  unfold b_law_1a_15a_1
  simp_arith [t1, c20, grd_err1, a1, meR_some]
  unfold b_law_1a_15a_2
  simp_arith [s2, c19, s3]
theorem law_fours (v4 v9 v11 : Option D) (S : Store) (n : Nat) (R : Store) (hS : Str S n R) :
    ∃ S' d4 d11 R', evSs (pg.cf (callF pg 55)) b_law_1a_15 (lE v0 v2 v3 v4 v5 v6 v7 v8 v9 v10 v11 v12 v13 v14 v15 v16 v17 v18 v19 v20 v21) S = .ok (.nx (lE v0 v2 v3 d4 v5 v6 v7 v8 v9 v10 d11 v12 v13 v14 v15 v16 v17 v18 v19 v20 v21)) S' ∧ Str S' n R' := by
  have hR : evR (pg.cf (callF pg 55)) (lE v0 v2 v3 v4 v5 v6 v7 v8 v9 v10 v11 v12 v13 v14 v15 v16 v17 v18 v19 v20 v21) (.val (.lst (.cons (.lit .non) (.cons (.lit (.int 5)) (.cons (.lit (.str [97, 98])) (.cons .edc .nil)))))) S = .ok (FOUR, []) S := by simp_arith []; rfl
  obtain ⟨e', S', h1, ⟨d4, d11, R', rfl, hS'⟩⟩ := for_draw (b := fun x e S => (Ro.opt (bindT (.nm 11) x e) S).bind fun e S => evSs (pg.cf (callF pg 55)) b_law_1a_15a_0 e S)
    (fun _ e S => ∃ d4 d11 R', e = lE v0 v2 v3 d4 v5 v6 v7 v8 v9 v10 d11 v12 v13 v14 v15 v16 v17 v18 v19 v20 v21 ∧ Str S n R') 0 0 FOUR (lE v0 v2 v3 v4 v5 v6 v7 v8 v9 v10 v11 v12 v13 v14 v15 v16 v17 v18 v19 v20 v21) S 0
    (fun x hx e S n' hI hn' => by
      obtain ⟨d4, d11, R', rfl, hS⟩ := hI
      obtain ⟨S', a4, R2, he, hS2⟩ := law_four v0 v2 v3 v5 v6 v7 v8 v10 v12 v13 v14 v15 v16 v17 v18 v19 v20 v21 d4 v9 x hx S n R' hS
      exact ⟨_, S', he, a4, some x, R2, rfl, hS2⟩)
    ⟨v4, v11, R, rfl, hS⟩ (by simp)
  refine ⟨S', d4, d11, R', ?_, hS'⟩
  unfold b_law_1a_15
  rw [evSs_cons, evS_for, hR, Ro.bind_ok]
  rw [show forR (pg.cf (callF pg 55)) (.nm 11) b_law_1a_15a_0 (lE v0 v2 v3 v4 v5 v6 v7 v8 v9 v10 v11 v12 v13 v14 v15 v16 v17 v18 v19 v20 v21) (FOUR, []) S = _ from h1]
  rw [Ro.bind_ok, flow_nx, evSs_nil]
end
/-- the names of the law's body, the spring's aside -/
def TI (v0 v3 : Option D) (e : Env) : Prop := ∃ v2 v4 v5 v6 v7 v8 v9 v10 v11 v12 v13 v14 v15 v16 v17 v18 v19 v20 v21, e = lE v0 v2 v3 v4 v5 v6 v7 v8 v9 v10 v11 v12 v13 v14 v15 v16 v17 v18 v19 v20 v21
theorem law_turn (v0 v3 : Option D) (e : Env) (he : TI v0 v3 e) (S : Store) (n : Nat) (R : Store) (hS : Str S n R) (hn : n + 500 ≤ LIM) :
    ∃ e' S' R', evSs (pg.cf (callF pg 55)) b_law_1a_0 e S = .ok (.nx e') S' ∧ TI v0 v3 e' ∧ Str S' (n + 500) R' := by
  obtain ⟨v2, v4, v5, v6, v7, v8, v9, v10, v11, v12, v13, v14, v15, v16, v17, v18, v19, v20, v21, rfl⟩ := he
  obtain ⟨fs, S1, d7, e1, hfs, h1, h6, hS1⟩ := law_forms v0 v2 v3 v4 v5 v6 v7 v8 v9 v10 v11 v12 v13 v14 v15 v16 v17 v18 v19 v20 v21 S n R hS (by omega)
  obtain ⟨f1, f2, f3⟩ := forms_lines 3 fs hfs
  have hM : M (linesOf fs) ≤ 6 * 164 := Nat.le_trans f2 (Nat.mul_le_mul_right _ h6)
  have hF3 : FL 3 = 124 := rfl
  have hSK : SK (linesOf fs) := fun l hl => cln_ok (f1 l hl).1
  have hl1 : ∀ l ∈ linesOf fs, l.length ≤ 300 := fun l hl => by have := (f1 l hl).2; omega
  have hne : linesOf fs ≠ [] := f3 (by rintro rfl; simp at h1)
  obtain ⟨S2, d6, d14, d15, R2, e2, hS2⟩ := law_texts v0 v2 v3 v4 (some (.lst (fs.map fun f => D.lst [.tup f.1, .lst (f.2.map .str)]))) v6 d7 v8 v9 v10 v11 v14 v15 v16 v17 v18 v19 v20 v21 fs hfs h6 S1 (n + 300) R hS1
  obtain ⟨S3, a4, a7, a16, a17, a18, a19, e3, hS3⟩ := law_again v0 v2 v3 (some (.lst (fs.map fun f => D.lst [.tup f.1, .lst (f.2.map .str)]))) d6 d14 d15 v20 v21 v4 d7 v8 v9 v10 v11 v16 v17 v18 v19 (.lst (deedsOf fs)) (linesOf fs) hSK hne (by omega) hl1 S2 (n + 300) R2 hS2 (by omega)
  obtain ⟨S4, b8, b10, b11, e4, hS4⟩ := law_odds v0 v2 v3 (some (.lst (fs.map fun f => D.lst [.tup f.1, .lst (f.2.map .str)]))) d6 d14 d15 v20 v21 a4 a7 v8 v9 v10 v11 (some (.lst ((linesOf fs).map .str))) a16 a17 a18 a19 fs hfs h6 S3 (n + 300 + 100) R2 hS3 (by omega)
  have e5 := law_deep v0 v2 v3 (some (.lst (fs.map fun f => D.lst [.tup f.1, .lst (f.2.map .str)]))) d6 a7 b8 b10 (some (.lst (deedsOf fs))) (some (.lst ((linesOf fs).map .str))) d14 d15 a16 a17 a18 a19 v20 v21 a4 b11 S4
  obtain ⟨S6, c4, c11, R6, e6, hS6⟩ := law_fours v0 v2 v3 (some (.lst (fs.map fun f => D.lst [.tup f.1, .lst (f.2.map .str)]))) d6 a7 b8 b10 (some (.lst (deedsOf fs))) (some (.lst ((linesOf fs).map .str))) d14 d15 a16 a17 a18 a19 v20 v21 a4 (some deepD) b11 S4 (n + 300 + 100 + 1) R2 hS4
  refine ⟨_, S6, R6, e1.trans (e2.trans (e3.trans (e4.trans (e5.trans e6)))), ⟨_, _, _, _, _, _, _, _, _, _, _, _, _, _, _, _, _, _, _, rfl⟩, Str_mono hS6 (by omega)⟩
end K85m
namespace K85m
open Pv Pw K85
def L1 : Sg := [99, 104, 97, 110, 103, 101, 32, 50]
def fullT (n : Nat) : Sg := mtext [L1, 124 :: List.replicate n 97]
theorem fullT_eq (n : Nat) : fullT n = [99, 104, 97, 110, 103, 101, 32, 50, 10, 124] ++ List.replicate n 97 ++ [10] := by simp [fullT, mtext, L1]
theorem fullT_len (n : Nat) : (fullT n).length = n + 11 := by rw [fullT_eq]; simp
theorem fullT_rows (n : Nat) : rows (fullT n) = [L1, 124 :: List.replicate n 97, []] := by
  rw [fullT, rows_mtext]
  · rfl
  · intro l hl c hc
    simp only [List.mem_cons, List.not_mem_nil, or_false] at hl
    rcases hl with rfl | rfl
    · have : ∀ c ∈ L1, c ≠ 10 := by decide
      exact this c hc
    · (rcases List.mem_cons.mp hc with rfl | hc)
      · decide
      · rw [List.eq_of_mem_replicate hc]; decide
theorem fullT_ok (n : Nat) : okStr (fullT n) = true := by
  refine okStr_mtext fun l hl => ?_
  simp only [List.mem_cons, List.not_mem_nil, or_false] at hl
  rcases hl with rfl | rfl
  · decide
  · simp only [okStr, List.all_cons, Bool.and_eq_true]
    refine ⟨by decide, ?_⟩
    rw [List.all_eq_true]
    intro c hc
    rw [List.eq_of_mem_replicate hc]; decide
theorem step_L1 : stepR st0 L1 = some ⟨[], 2, []⟩ := by
  have hw : splitC 32 [] L1 = [CHG, [50]] := by decide
  have hf : figR [50] = some 2 := by decide
  unfold stepR
  rw [if_neg (by decide)]
  simp only [hw]
  have hg0 : ([CHG, [50]] : List Sg).getD 0 [] = CHG := rfl
  have hg1 : ([CHG, [50]] : List Sg).getD 1 [] = [50] := rfl
  have d1 : decide (CHG = DROP) = false := by decide
  rw [hg0, hg1, if_neg (by decide), d1, hf]
  rfl
theorem step_L2 (n : Nat) : stepR ⟨[], 2, []⟩ (124 :: List.replicate n 97) = if n + 2 ≤ 8000 then some ⟨[], 1, [List.replicate n 97]⟩ else none := by
  unfold stepR
  have hm : (mtext [List.replicate n 97]).length = n + 1 := by simp [mtext]
  by_cases h : n + 2 ≤ 8000
  · simp [hm, h, show n + 1 + 1 ≤ 8000 by omega]
  · simp [hm, h, show ¬ n + 1 + 1 ≤ 8000 by omega]
theorem linesR_full (n : Nat) : linesR (fullT n) = if n + 2 ≤ 8000 then ([], some 0) else ([], some 2) := by
  have hs := step_L2 n
  unfold linesR
  rw [fullT_rows]
  generalize 124 :: List.replicate n 97 = l2 at *
  have hd : [L1, l2, []].dropLast = [L1, l2] := rfl
  have hlast : [L1, l2, []].getLast? = some [] := rfl
  rw [hd, hlast]
  by_cases h : n + 2 ≤ 8000
  · rw [if_pos h] at hs ⊢
    have h1 : runR st0 1 [L1, l2] = .inr ⟨[], 1, [List.replicate n 97]⟩ := by
      rw [runR_cons step_L1, runR_cons hs]
      rfl
    rw [h1]
    simp
  · rw [if_neg h] at hs ⊢
    have h1 : runR st0 1 [L1, l2] = .inl 2 := by
      rw [runR_cons step_L1, runR, hs]
    rw [h1]
theorem linesR_full1 : linesR (fullT 7998) = ([], some 0) := (linesR_full 7998).trans (if_pos (by decide))
theorem linesR_full2 : linesR (fullT 7999) = ([], some 2) := (linesR_full 7999).trans (if_neg (by decide))
theorem full_rowlen (n : Nat) (h : n ≤ 7999) : ∀ l ∈ rows (fullT n), l.length ≤ 8000 := by
  rw [fullT_rows]
  intro l hl
  simp only [List.mem_cons, List.not_mem_nil, or_false] at hl
  rcases hl with rfl | rfl | rfl
  · decide
  · simp; omega
  · simp
theorem replC0 (a b : Sg) (n : Nat) (s : Sg) : replC a b n 0 s = s := by cases n <;> rfl
theorem repl_full (m : Nat) (r : Sg) : replC [124, 97] [124, 97, 97] (m + 10) 1 ([99, 104, 97, 110, 103, 101, 32, 50, 10, 124, 97] ++ r) = [99, 104, 97, 110, 103, 101, 32, 50, 10, 124, 97, 97] ++ r := by
  have skip : ∀ (n c : Nat) (s : Sg), ¬ (c :: s).take 2 = [124, 97] → replC [124, 97] [124, 97, 97] (n + 1) 1 (c :: s) = c :: replC [124, 97] [124, 97, 97] n 1 s := by
    intro n c s h
    rw [replC]
    exact if_neg h
  have hit : ∀ (n : Nat) (s : Sg), replC [124, 97] [124, 97, 97] (n + 1) 1 (124 :: 97 :: s) = [124, 97, 97] ++ s := by
    intro n s
    rw [replC]
    refine (if_pos rfl).trans ?_
    show [124, 97, 97] ++ replC _ _ n 0 s = _
    rw [replC0]
  simp only [List.cons_append, List.nil_append]
  rw [skip _ _ _ (by simp), skip _ _ _ (by simp), skip _ _ _ (by simp), skip _ _ _ (by simp), skip _ _ _ (by simp), skip _ _ _ (by simp), skip _ _ _ (by simp), skip _ _ _ (by simp), skip _ _ _ (by simp), hit]
  simp
theorem me_repl (S : Store) : meD .replace S (.str (fullT 7998)) [.str [124, 97], .str [124, 97, 97], .int 1] = some (.str (fullT 7999), S) := by
  have hl := fullT_len 7998
  have key : replC [124, 97] [124, 97, 97] ((fullT 7998).length + 1) 1 (fullT 7998) = fullT 7999 := by
    rw [hl, show 7998 + 11 + 1 = 8000 + 10 from rfl]
    have e1 : fullT 7998 = [99, 104, 97, 110, 103, 101, 32, 50, 10, 124, 97] ++ (List.replicate 7997 97 ++ [10]) := by
      rw [fullT_eq, show 7998 = 7997 + 1 from rfl, List.replicate_succ]; simp only [List.cons_append, List.nil_append]
    have e2 : fullT 7999 = [99, 104, 97, 110, 103, 101, 32, 50, 10, 124, 97, 97] ++ (List.replicate 7997 97 ++ [10]) := by
      rw [fullT_eq, show 7999 = 7997 + 1 + 1 from rfl, List.replicate_succ, List.replicate_succ]; simp only [List.cons_append, List.nil_append]
    rw [e1, e2, repl_full]
  generalize fullT 7999 = t2 at *
  generalize fullT 7998 = t1 at *
  show (if [124, 97] ≠ [] ∧ (0 : Int) ≤ 1 ∧ (1 : Int) ≤ 1000 ∧ t1.length + 1000 * 3 ≤ SZ then some (D.str (replC [124, 97] [124, 97, 97] (t1.length + 1) 1 t1), S) else none) = _
  rw [if_pos ⟨by simp, by decide, by decide, szz (by omega)⟩, key]
theorem isTrue_of {p : Nat → Bool} {o : Option Nat} {n : Nat} (h : o = some n) : o = some n := h
theorem fault1 : (linesR [99, 104, 97, 110, 103, 101, 32, 49, 10]).2 = some 0 := by decide +kernel
theorem fault2 : (linesR [99, 104, 97, 110, 103, 101, 32, 56, 48, 48, 49, 10]).2 = some 1 := by decide +kernel
theorem call_start (ns : List Int) : callF pg 55 23 [.scr ns] [] = .ok (.obj 1) (sS ns 0 0 43 []) := by
  refine (call_lv (P := pg) (k := 54) (f := 23) (ds := [.scr ns]) (S := []) ⟨1, 1, true, b__law_start⟩ [some (.scr ns)] rfl rfl rfl rfl).trans ?_
  have hn : ∀ S, nliD (.scr ns) S = .ok (.obj S.length) (S ++ [.lst (ns.map .int)]) := fun S => rfl
  unfold b__law_start
  simp_arith [hn]
  rfl
theorem full_add (n : Nat) (h : n ≤ 8000) (S : Store) : opD .add S (.str [99, 104, 97, 110, 103, 101, 32, 50, 10, 124]) (.str (List.replicate n 97)) = some (.str ([99, 104, 97, 110, 103, 101, 32, 50, 10, 124] ++ List.replicate n 97)) :=
  opAs S _ _ (szz (by rw [List.length_replicate]; show 10 + n ≤ _; omega))
theorem full_add2 (n : Nat) (h : n ≤ 8000) (S : Store) : opD .add S (.str ([99, 104, 97, 110, 103, 101, 32, 50, 10, 124] ++ List.replicate n 97)) (.str [10]) = some (.str (fullT n)) := by
  rw [fullT_eq]
  exact opAs S _ _ (szz (by rw [List.length_append, List.length_replicate]; show 10 + n + 1 ≤ _; omega))
theorem law_end (v0 v3 : Option D) (e : Env) (he : TI v0 v3 e) (S : Store) (n : Nat) (R : Store) (hS : Str S n R) : ∃ S', evSs (pg.cf (callF pg 55)) b_law_2 e S = .ok (.rt (.bl true)) S' := by
  obtain ⟨v2, v4, v5, v6, v7, v8, v9, v10, v11, v12, v13, v14, v15, v16, v17, v18, v19, v20, v21, rfl⟩ := he
  have hmul : ∀ S, opD .mul S (.str [97]) (.int 7998) = some (.str (List.replicate 7998 97)) := fun S => mulS S 97 7998 (by decide)
  have a1 := fun S => full_add 7998 (by decide) S
  have a2 := fun S => full_add2 7998 (by decide) S
  have f1 : ∀ S, callF pg 55 19 [.str (fullT 7998)] S = .ok (.int 0) S := fun S => by
    have := call_fault 51 (by decide) (fullT 7998) S (by rw [fullT_len]; decide) (full_rowlen 7998 (by decide)) (fullT_ok _)
    rw [linesR_full1] at this
    exact this
  have f2 : ∀ S, callF pg 55 19 [.str (fullT 7999)] S = .ok (.int 2) S := fun S => by
    have := call_fault 51 (by decide) (fullT 7999) S (by rw [fullT_len]; decide) (full_rowlen 7999 (by decide)) (fullT_ok _)
    rw [linesR_full2] at this
    exact this
  have f3 : ∀ S, callF pg 55 19 [.str [99, 104, 97, 110, 103, 101, 32, 49, 10]] S = .ok (.int 0) S := fun S => by
    have := call_fault 51 (by decide) [99, 104, 97, 110, 103, 101, 32, 49, 10] S (by decide) (fun l hl => Nat.le_trans (len_split hl) (by decide)) (by decide)
    rw [fault1] at this
    exact this
  have f4 : ∀ S, callF pg 55 19 [.str [99, 104, 97, 110, 103, 101, 32, 56, 48, 48, 49, 10]] S = .ok (.int 1) S := fun S => by
    have := call_fault 51 (by decide) [99, 104, 97, 110, 103, 101, 32, 56, 48, 48, 49, 10] S (by decide) (fun l hl => Nat.le_trans (len_split hl) (by decide)) (by decide)
    rw [fault2] at this
    exact this
  have f5 : ∀ S, callF pg 55 20 [.str []] S = .ok (.lst []) S := fun S => call_read 51 (by decide) [] S (by decide) (fun l hl => Nat.le_trans (len_split hl) (by decide)) (by decide)
  have f6 : ∀ S, callF pg 55 11 [.lst []] S = .ok (.str []) S := fun S => call_dtext 54 3 (by decide) (by decide) false true [] (by simp) (by decide) S
  have hrp := fun S => me_repl S
  have hmt : ∀ S, meT .replace S (.str (fullT 7998)) = true := fun S => rfl
  have hSl := Str_len hS
  have g1 : (S ++ [.lst [.str [], .lst [], .int 0, .int 1, .int 0, .int 2]])[R.length + 2]? = some (.lst [.str [], .lst [], .int 0, .int 1, .int 0, .int 2]) := by
    rw [← hSl]; simp
  have s2 := call_sameL 26 54 [.str [], .lst [], .int 0, .int 1, .int 0, .int 2] (by decide) (by decide) ⟨trivial, ⟨Nat.zero_le _, trivial⟩, trivial, trivial, trivial, trivial, trivial⟩ (szz (by simp)) (by decide) _ (R.length + 2) g1
  refine ⟨S ++ [.lst [.str [], .lst [], .int 0, .int 1, .int 0, .int 2]], ?_⟩
  generalize fullT 7998 = t1 at *
  generalize fullT 7999 = t2 at *
  generalize List.replicate 7998 97 = as at *
  simp only [List.cons_append, List.nil_append] at a1 a2
  unfold b_law_2
  simp_arith [hmul, a1, a2]
  unfold b_law_3
  simp_arith [f6, f5, f3, f4, f1, hmt, hrp, meR_some, f2, hSl]
  unfold b_law_4
  simp_arith [s2]
/-- the law's evaluation -/
theorem says (ns : List Int) (hns : ns.length ≤ 63) : ∃ S, callF pg 56 36 [.scr ns] [] = .ok (.bl true) S := by
  have h0 := call_start ns
  have hS0 : Str (sS ns 0 0 43 []) 0 [] := ⟨ns, 0, 0, 43, rfl, Nat.zero_le _, by decide, hns⟩
  have hR : evR (pg.cf (callF pg 55)) (lE (some (.scr ns)) none none none none none none none none none none none none none none none none none none none none) (.rng (.lit (.int 4))) (sS ns 0 0 43 []) = .ok ((List.range 4).map fun k => D.int (k : Nat), []) (sS ns 0 0 43 []) := evR_rng (n := 4) (by simp_arith []; rfl) (by decide)
  obtain ⟨e', S', h1, hT, R', hS'⟩ := for_draw (b := fun x e S => (Ro.opt (bindT (.nm 2) x e) S).bind fun e S => evSs (pg.cf (callF pg 55)) b_law_1a_0 e S)
    (fun n e S => TI (some (.scr ns)) none e ∧ ∃ R, Str S n R) 500 2000 ((List.range 4).map fun k => D.int (k : Nat)) (lE (some (.scr ns)) none none none none none none none none none none none none none none none none none none none none) (sS ns 0 0 43 []) 0
    (fun x hx e S n hI hn => by
      obtain ⟨he, R, hS⟩ := hI
      have he2 : TI (some (.scr ns)) none (e.set 2 (some x)) := by
        obtain ⟨v2, v4, v5, v6, v7, v8, v9, v10, v11, v12, v13, v14, v15, v16, v17, v18, v19, v20, v21, rfl⟩ := he
        exact ⟨some x, v4, v5, v6, v7, v8, v9, v10, v11, v12, v13, v14, v15, v16, v17, v18, v19, v20, v21, rfl⟩
      obtain ⟨e', S', R', h, hT, hS'⟩ := law_turn (some (.scr ns)) none _ he2 S n R hS (by simp only [LIM]; omega)
      exact ⟨e', S', h, hT, R', hS'⟩)
    ⟨⟨_, _, _, _, _, _, _, _, _, _, _, _, _, _, _, _, _, _, _, rfl⟩, [], hS0⟩ (by simp)
  obtain ⟨S2, h2⟩ := law_end _ _ e' hT S' _ R' hS'
  refine ⟨[], call_ok ⟨1, 22, false, b_law_0⟩ (some (.scr ns) :: List.replicate 21 none) rfl rfl rfl rfl ?_ rfl (S' := S2)⟩
  unfold b_law_0
  show (evSs _ _ [some (.scr ns), none, none, none, none, none, none, none, none, none, none, none, none, none, none, none, none, none, none, none, none, none] _).bind endFl = _
  simp_arith [h0]
  unfold b_law_1
  rw [evSs_cons, evS_for]
  have hR' : evR (pg.cf (callF pg 55)) [some (.scr ns), some (.obj 1), none, none, none, none, none, none, none, none, none, none, none, none, none, none, none, none, none, none, none, none] (.rng (.lit (.int 4))) (sS ns 0 0 43 []) = _ := hR
  rw [hR', Ro.bind_ok]
  rw [show forR (pg.cf (callF pg 55)) (.nm 2) b_law_1a_0 [some (.scr ns), some (.obj 1), none, none, none, none, none, none, none, none, none, none, none, none, none, none, none, none, none, none, none, none] ((List.range 4).map fun k => D.int (k : Nat), []) (sS ns 0 0 43 []) = _ from h1]
  rw [Ro.bind_ok, flow_nx, h2]
  rfl
end K85m
namespace Pv
open PySem L2
def sv (s : List Nat) : Str := ⟨s.toArray⟩
theorem sv_list (s : List Nat) : (sv s).cps.toList = s := rfl
theorem sv_len (s : List Nat) : (sv s).length = s.length := by
  show s.toArray.size = s.length
  simp
theorem sv_add (a b : List Nat) : sv a ++ sv b = sv (a ++ b) := by
  show (⟨a.toArray ++ b.toArray⟩ : Str) = ⟨(a ++ b).toArray⟩
  simp
theorem sv_inj {a b : List Nat} (h : sv a = sv b) : a = b := by
  have e : (sv a).cps.toList = (sv b).cps.toList := by rw [h]
  exact e
theorem sv_of (x : Str) : sv x.cps.toList = x := rfl
mutual
/-- the value d stands as v: G what never changes, φ where the live objects stand -/
inductive Rep (K : PySem.W.Frag) (W : World) (G : Hp) (φ : List Addr) : D → V → Prop
  | non : Rep K W G φ .non .non
  | bl (b : Bool) : Rep K W G φ (.bl b) (.bl b)
  | int (i : Int) : Rep K W G φ (.int i) (.int i)
  | str (s : List Nat) : Rep K W G φ (.str s) (.str (sv s))
  | lst {a : Addr} {vs : List V} {ds : List D} : G a = some (.lst vs) → Reps K W G φ ds vs → Rep K W G φ (.lst ds) (.ref a)
  | tup {a : Addr} {vs : List V} {ds : List D} : SqT K G a vs → Reps K W G φ ds vs → Rep K W G φ (.tup ds) (.ref a)
  | scr {a : Addr} {ns : List Int} : SqL K G a (ns.map V.int) → Rep K W G φ (.scr ns) (.ref a)
  | edc {a : Addr} : G a = some (.dK []) → Rep K W G φ .edc (.ref a)
  | sdc {a : Addr} {kvs : List (List Nat × Int)} {es : Array DictEntry} {n : Nat} : KDict K W a es n →
      (∀ k, ∃ r, PySem.W.nsIn K a (sv k) = some r ∧ RelO ((kvs.lookup k).map V.int) r) → Rep K W G φ (.sdc kvs) (.ref a)
  | obj {a : Addr} {n : Nat} : φ[n]? = some a → Rep K W G φ (.obj n) (.ref a)
inductive Reps (K : PySem.W.Frag) (W : World) (G : Hp) (φ : List Addr) : List D → List V → Prop
  | nil : Reps K W G φ [] []
  | cons {d : D} {v : V} {ds : List D} {vs : List V} : Rep K W G φ d v → Reps K W G φ ds vs → Reps K W G φ (d :: ds) (v :: vs)
end
def Sub (G G' : Hp) : Prop := ∀ a o, G a = some o → G' a = some o
theorem Sub.refl (G : Hp) : Sub G G := fun _ _ h => h
theorem Sub.trans {A B C : Hp} (x : Sub A B) (y : Sub B C) : Sub A C := fun a o h => y a o (x a o h)
def Pre (φ φ' : List Addr) : Prop := ∀ (n : Nat) (a : Addr), φ[n]? = some a → φ'[n]? = some a
theorem Pre.refl (φ : List Addr) : Pre φ φ := fun _ _ h => h
theorem Pre.trans {a b c : List Addr} (x : Pre a b) (y : Pre b c) : Pre a c := fun n q h => y n q (x n q h)
theorem Pre.app (φ ψ : List Addr) : Pre φ (φ ++ ψ) := fun n a h => by
  have hl : n < φ.length := (List.getElem?_eq_some_iff.mp h).1
  rw [List.getElem?_append_left hl, h]
theorem sub_rd {G G' : Hp} {a : Addr} {u : HO} (e : Sub G G') (h : Rd G a u) : Rd G' a u := by
  rcases h with h | ⟨o, h⟩
  · exact Or.inl (e a _ h)
  · exact Or.inr ⟨o, e a _ h⟩
theorem sub_l {K : PySem.W.Frag} {G G' : Hp} {a : Addr} {xs : List V} (e : Sub G G') (h : SqL K G a xs) : SqL K G' a xs := by
  rcases h with h | h
  · exact Or.inl (sub_rd e h)
  · exact Or.inr h
theorem sub_t {K : PySem.W.Frag} {G G' : Hp} {a : Addr} {xs : List V} (e : Sub G G') (h : SqT K G a xs) : SqT K G' a xs := by
  rcases h with h | h
  · exact Or.inl (sub_rd e h)
  · exact Or.inr h
section
variable {K : PySem.W.Frag} {W : World} {G G' : Hp} {φ φ' : List Addr}
mutual
theorem Rep.mono (hG : Sub G G') (hφ : Pre φ φ') : ∀ {d : D} {v : V}, Rep K W G φ d v → Rep K W G' φ' d v
  | _, _, .non => .non
  | _, _, .bl b => .bl b
  | _, _, .int i => .int i
  | _, _, .str s => .str s
  | _, _, .lst h r => .lst (hG _ _ h) (Reps.mono hG hφ r)
  | _, _, .tup h r => .tup (sub_t hG h) (Reps.mono hG hφ r)
  | _, _, .scr h => .scr (sub_l hG h)
  | _, _, .edc h => .edc (hG _ _ h)
  | _, _, .sdc h r => .sdc h r
  | _, _, .obj h => .obj (hφ _ _ h)
theorem Reps.mono (hG : Sub G G') (hφ : Pre φ φ') : ∀ {ds : List D} {vs : List V}, Reps K W G φ ds vs → Reps K W G' φ' ds vs
  | _, _, .nil => .nil
  | _, _, .cons r t => .cons (Rep.mono hG hφ r) (Reps.mono hG hφ t)
end
theorem Reps.length : ∀ {ds : List D} {vs : List V}, Reps K W G φ ds vs → ds.length = vs.length
  | _, _, .nil => rfl
  | _, _, .cons _ t => by rw [List.length_cons, List.length_cons, Reps.length t]
theorem Reps.get : ∀ {ds : List D} {vs : List V} {i : Nat} {d : D}, Reps K W G φ ds vs → ds[i]? = some d → ∃ v, vs[i]? = some v ∧ Rep K W G φ d v
  | _, _, _, _, .nil, e => (by simp at e)
  | _, _, 0, _, .cons r _, e => (by simp at e; subst e; exact ⟨_, rfl, r⟩)
  | _, _, i + 1, d, .cons _ t, e => by
    obtain ⟨v, h1, h2⟩ := Reps.get (i := i) (d := d) t (by simpa using e)
    exact ⟨v, by simpa using h1, h2⟩
theorem Reps.getV : ∀ {ds : List D} {vs : List V} {i : Nat} {v : V}, Reps K W G φ ds vs → vs[i]? = some v → ∃ d, ds[i]? = some d ∧ Rep K W G φ d v
  | _, _, _, _, .nil, e => (by simp at e)
  | _, _, 0, _, .cons r _, e => (by simp at e; subst e; exact ⟨_, rfl, r⟩)
  | _, _, i + 1, d, .cons _ t, e => by
    obtain ⟨v, h1, h2⟩ := Reps.getV (i := i) (v := d) t (by simpa using e)
    exact ⟨v, by simpa using h1, h2⟩
theorem Reps.append : ∀ {a b : List D} {x y : List V}, Reps K W G φ a x → Reps K W G φ b y → Reps K W G φ (a ++ b) (x ++ y)
  | _, _, _, _, .nil, s => s
  | _, _, _, _, .cons r t, s => .cons r (Reps.append t s)
theorem Reps.take : ∀ {a : List D} {x : List V} (n : Nat), Reps K W G φ a x → Reps K W G φ (a.take n) (x.take n)
  | _, _, 0, _ => .nil
  | _, _, _ + 1, .nil => .nil
  | _, _, n + 1, .cons r t => .cons r (Reps.take n t)
theorem Reps.drop : ∀ {a : List D} {x : List V} (n : Nat), Reps K W G φ a x → Reps K W G φ (a.drop n) (x.drop n)
  | _, _, 0, r => r
  | _, _, _ + 1, .nil => .nil
  | _, _, n + 1, .cons _ t => Reps.drop n t
theorem Reps.set {d : D} {v : V} (r : Rep K W G φ d v) : ∀ {a : List D} {x : List V} (i : Nat), Reps K W G φ a x → Reps K W G φ (a.set i d) (x.set i v)
  | _, _, _, .nil => .nil
  | _, _, 0, .cons
        _ t => .cons r t
  | _, _, i + 1, .cons q t => .cons q (Reps.set r i t)
theorem Reps.eraseIdx : ∀ {a : List D} {x : List V} (i : Nat), Reps K W G φ a x → Reps K W G φ (a.eraseIdx i) (x.eraseIdx i)
  | _, _, _, .nil => .nil
  | _, _, 0, .cons _ t => t
  | _, _, i + 1, .cons q t => .cons q (Reps.eraseIdx i t)
theorem Reps.dropLast {a : List D} {x : List V} (h : Reps K W G φ a x) : Reps K W G φ a.dropLast x.dropLast := by
  rw [List.dropLast_eq_take, List.dropLast_eq_take, h.length]
  exact h.take _
theorem Reps.ints : ∀ {ns : List Int}, Reps K W G φ (ns.map D.int) (ns.map V.int)
  | [] => .nil
  | n :: ns => .cons (.int n) Reps.ints
theorem Reps.strs : ∀ {ss : List (List Nat)}, Reps K W G φ (ss.map D.str) (ss.map fun s => V.str (sv s))
  | [] => .nil
  | n :: ns => .cons (.str n) Reps.strs
theorem Reps.snoc {a : List D} {x : List V} {d : D} {v : V} (h : Reps K W G φ a x) (r : Rep K W G φ d v) : Reps K W G φ (a ++ [d]) (x ++ [v]) := h.append (.cons r .nil)
end
/-- the heap, what never changes of it, where the live objects stand -/
structure Wd where
  H : Hp
  G : Hp
  φ : List Addr
/-- what is fixed: the written part, the world, the addresses of classes, the names of fields -/
structure Ks where
  K : PySem.W.Frag
  W : World
  cls : Nat → Addr
  fld : Nat → Str
  ecl : Nat → Addr
  efl : Nat → List Str
  tabs : List (Addr × Str)
inductive CellOk (T : Ks) (w : Wd) (a : Addr) : Cell → Prop
  | lst {ds : List D} {vs : List V} : w.H a = some (.lst vs) → Reps T.K T.W w.G w.φ ds vs → CellOk T w a (.lst ds)
  | ins {c : Nat} {fs : List (Nat × D)} {dx : Addr} {gs : List (Str × V)} : w.H a = some (.ins (T.cls c) dx gs) →
      gs.map (·.1) = fs.map (fun p => T.fld p.1) → Reps T.K T.W w.G w.φ (fs.map (·.2)) (gs.map (·.2)) → CellOk T w a (.ins c fs)
structure Wd.ok (T : Ks) (w : Wd) (S : Store) : Prop where
  sub : Sub w.G w.H
  len : S.length = w.φ.length
  nd : ∀ (i j : Nat) (a : Addr), w.φ[i]? = some a → w.φ[j]? = some a → i = j
  live : ∀ (i : Nat) (a : Addr), w.φ[i]? = some a → w.G a = none
  cell : ∀ (i : Nat) (a : Addr) (c : Cell), w.φ[i]? = some a → S[i]? = some c → CellOk T w a c
  gt : ∀ a ps, w.G a ≠ some (.tbl ps)
  tab : LamX.Tabs T.tabs w.H
/-- no thing of ours stands there -/
def Wd.fr (w : Wd) (a : Addr) : Prop := ∀ o, w.H a = some o → ∃ ps, o = .tbl ps
theorem Wd.fr_of {w : Wd} {a : Addr} (h : w.H a = none) : w.fr a := fun o e => by rw [h] at e; cases e
structure Wd.le (w w' : Wd) : Prop where
  sub : Sub w.G w'.G
  pre : Pre w.φ w'.φ
  keep : ∀ a o, w.H a = some o → a ∉ w.φ → (∀ ps, o ≠ .tbl ps) → w'.H a = some o
  new : ∀ a, a ∈ w'.φ → a ∈ w.φ ∨ w.fr a
  newG : ∀ a o, w'.G a = some o → w.G a = some o ∨ w.fr a
theorem Wd.le.refl (w : Wd) : w.le w := ⟨Sub.refl _, Pre.refl _, fun _ _ h _ _ => h, fun _ h => .inl h, fun _ _ h => .inl h⟩
theorem Wd.le.back {w w' : Wd} (x : w.le w') {a : Addr} (h : w'.fr a) : a ∈ w.φ ∨ w.fr a := by
  by_cases hm : a ∈ w.φ
  · exact .inl hm
  · refine .inr fun o e => ?_
    by_cases ht : ∃ ps, o = .tbl ps
    · exact ht
    · exact absurd (h o (x.keep a o e hm fun ps q => ht ⟨ps, q⟩)) ht
/-- tables stay where a thing of another kind is written -/
theorem tabs_upd {L : List (Addr × Str)} {H : Hp} {a : Addr} {o u : HO} (t : LamX.Tabs L H) (ha : H a = some u) (h1 : ∀ ps, u ≠ .tbl ps) (h2 : ∀ φ, u ≠ .ext φ) : LamX.Tabs L (upd H a o) := fun p hp => by
  obtain ⟨ps, e, tr, hc⟩ := t p hp
  refine ⟨ps, ?_, tr, fun pos cv hcv => ?_⟩
  · rw [upd_ne fun q => ?_]
    · exact e
    · rw [q, ha] at e
      exact h1 _ (Option.some.inj e)
  · obtain ⟨c, e1, e2⟩ := hc pos cv hcv
    refine ⟨c, e1, ?_⟩
    rw [upd_ne fun q => ?_]
    · exact e2
    · rw [q, ha] at e2
      exact h2 _ (Option.some.inj e2)
theorem tabs_new {L : List (Addr × Str)} {H : Hp} {a : Addr} {o : HO} (t : LamX.Tabs L H) (ha : H a = none) : LamX.Tabs L (upd H a o) := t.ext fun b u e => by rw [upd_ne (ne_of_none e ha)]; exact e
theorem Wd.mem_at {w : Wd} {a : Addr} (h : a ∈ w.φ) : ∃ n : Nat, w.φ[n]? = some a := List.getElem?_of_mem h
theorem Wd.ok.live_ {T : Ks} {w : Wd} {S : Store} (k : w.ok T S) {a : Addr} (h : a ∈ w.φ) : ∃ o, w.H a = some o ∧ (∀ ps, o ≠ .tbl ps) ∧ ∀ φ, o ≠ .ext φ := by
  obtain ⟨n, e⟩ := Wd.mem_at h
  have hn : n < S.length := by
    rw [k.len]
    (exact (List.getElem?_eq_some_iff.mp e).1)
  have hc := k.cell n a S[n] e (List.getElem?_eq_getElem hn)
  generalize S[n] = c at hc
  cases hc with
  | lst h1 _ => exact ⟨_, h1, (fun _ q => by cases q), (fun _ q => by cases q)⟩
  | ins h1 _ _ => exact ⟨_, h1, (fun _ q => by cases q), (fun _ q => by cases q)⟩
theorem Wd.ok.at_ {T : Ks} {w : Wd} {S : Store} (k : w.ok T S) {a : Addr} (h : a ∈ w.φ) : ∃ o, w.H a = some o := let ⟨o, e, _⟩ := k.live_ h; ⟨o, e⟩
theorem Wd.le.trans {T : Ks} {S S1 : Store} {w w1 w2 : Wd} (k : w.ok T S) (k1 : w1.ok T S1) (x : w.le w1) (y : w1.le w2) : w.le w2 := by
  have no : ∀ {a : Addr}, w1.fr a → a ∉ w.φ := fun {a} h hm => by
    obtain ⟨n, e⟩ := Wd.mem_at hm
    obtain ⟨o, eo, ht, _⟩ := k1.live_ (List.mem_of_getElem? (x.pre n a e))
    obtain ⟨ps, q⟩ := h o eo
    exact ht ps q
  have bk : ∀ {a : Addr}, w1.fr a → w.fr a := fun {a} h => (x.back h).resolve_left (no h)
  refine ⟨x.sub.trans y.sub, x.pre.trans y.pre, fun a o h n nt => ?_, fun a h => ?_, fun a o h => ?_⟩
  · refine y.keep a o (x.keep a o h n nt) (fun hm => ?_) nt
    rcases x.new a hm with q | q
    · exact n q
    · obtain ⟨ps, e⟩ := q o h
      exact nt ps e
  · rcases y.new a h with h | h
    · exact x.new a h
    · exact .inr (bk h)
  · rcases y.newG a o h with h | h
    · exact x.newG a o h
    · exact .inr (bk h)
section
variable {T : Ks} {w w' : Wd} {S S' : Store}
theorem Rep.le {d : D} {v : V} (x : w.le w') (r : Rep T.K T.W w.G w.φ d v) : Rep T.K T.W w'.G w'.φ d v := r.mono x.sub x.pre
theorem Reps.le {d : List D} {v : List V} (x : w.le w') (r : Reps T.K T.W w.G w.φ d v) : Reps T.K T.W w'.G w'.φ d v := r.mono x.sub x.pre
/-- a new frozen thing -/
theorem Wd.ok.freeze (k : w.ok T S) {p : Addr} {o : HO} (h : w.H p = none) (ho : ∀ ps, o ≠ HO.tbl ps := by intro _ h; cases h) : (Wd.mk (upd w.H p o) (upd w.G p o) w.φ).ok T S ∧ w.le (Wd.mk (upd w.H p o) (upd w.G p o) w.φ) := by
  have gn : w.G p = none := by
    cases e : w.G p with
    | none => rfl
    | some u =>
      rw [k.sub p u e] at h
      cases h
  have np : p ∉ w.φ := fun hm => by
    obtain ⟨o, e⟩ := k.at_ hm
    rw [e] at h
    cases h
  have sG : Sub w.G (upd w.G p o) := fun a u e => by rw [upd_ne (ne_of_none e gn)]; exact e
  have sH : ∀ a u, w.H a = some u → upd w.H p o a = some u := fun a u e => by rw [upd_ne (ne_of_none e h)]; exact e
  have ne : ∀ {i : Nat} {a : Addr}, w.φ[i]? = some a → a ≠ p := fun e q => np (q ▸ List.mem_of_getElem? e)
  refine ⟨⟨fun a u e => ?_, k.len, k.nd, fun i a e => ?_, fun i a c e ec => ?_, fun a ps e => ?_, tabs_new k.tab h⟩, ⟨sG, Pre.refl _, fun a u e _ _ => sH a u e, fun a hm => .inl hm, fun a u e => ?_⟩⟩
  · by_cases q : a = p
    · subst q
      have e' : upd w.G a o a = some u := e
      rw [upd_same] at e'
      show upd w.H a o a = some u
      rw [upd_same, e']
    · have e' : upd w.G p o a = some u := e
      rw [upd_ne q] at e'
      exact sH a u (k.sub a u e')
  · show upd w.G p o a = none
    rw [upd_ne (ne e)]
    exact k.live i a e
  · cases k.cell i a c e ec with
    | lst h1 r => exact .lst (sH _ _ h1) (r.mono sG (Pre.refl _))
    | ins h1 h2 r => exact .ins (sH _ _ h1) h2 (r.mono sG (Pre.refl _))
  · by_cases q : a = p
    · subst q
      have e' : upd w.G a o a = some (.tbl ps) := e
      rw [upd_same] at e'
      exact ho ps (Option.some.inj e')
    · have e' : upd w.G p o a = some (.tbl ps) := e
      rw [upd_ne q] at e'
      exact k.gt a ps e'
  · by_cases q : a = p
    · exact .inr (Wd.fr_of (q ▸ h))
    · have e' : upd w.G p o a = some u := e
      rw [upd_ne q] at e'
      exact .inl e'
/-- a new live list -/
theorem Wd.ok.born (k : w.ok T S) {p : Addr} {vs : List V} {ds : List D} (h : w.H p = none) (r : Reps T.K T.W w.G w.φ ds vs) :
    (Wd.mk (upd w.H p (.lst vs)) w.G (w.φ ++ [p])).ok T (S ++ [.lst ds]) ∧ w.le (Wd.mk (upd w.H p (.lst vs)) w.G (w.φ ++ [p])) := by
  have gn : w.G p = none := by
    cases e : w.G p with
    | none => rfl
    | some u =>
      rw [k.sub p u e] at h
      cases h
  have np : p ∉ w.φ := fun hm => by
    obtain ⟨o, e⟩ := k.at_ hm
    rw [e] at h
    cases h
  have sH : ∀ a u, w.H a = some u → upd w.H p (.lst vs) a = some u := fun a u e => by rw [upd_ne (ne_of_none e h)]; exact e
  have ix : ∀ {i : Nat} {a : Addr}, (w.φ ++ [p])[i]? = some a → (w.φ[i]? = some a) ∨ (i = w.φ.length ∧ a = p) := fun {i a} e => by
    by_cases hi : i < w.φ.length
    · rw [List.getElem?_append_left hi] at e
      exact .inl e
    · rw [List.getElem?_append_right (Nat.le_of_not_lt hi)] at e
      have h0 : i - w.φ.length = 0 := by
        have := (List.getElem?_eq_some_iff.mp e).1
        simp at this
        omega
      rw [h0] at e
      simp at e
      exact .inr ⟨by omega, e.symm⟩
  have pr : Pre w.φ (w.φ ++ [p]) := Pre.app _ _
  refine ⟨⟨fun a u e => sH a u (k.sub a u e), by simp [k.len], fun i j a e1 e2 => ?_, fun i a e => ?_, fun i a c e ec => ?_, k.gt, tabs_new k.tab h⟩, ⟨Sub.refl _, pr, fun a u e _ _ => sH a u e, fun a hm => ?_, fun a u e => .inl e⟩⟩
  · rcases ix e1 with e1 | ⟨e1, q1⟩ <;> rcases ix e2 with e2 | ⟨e2, q2⟩
    · exact k.nd i j a e1 e2
    · exact absurd (q2 ▸ List.mem_of_getElem? e1) np
    · exact absurd (q1 ▸ List.mem_of_getElem? e2) np
    · omega
  · rcases ix e with e | ⟨_, q⟩
    · exact k.live i a e
    · rw [q]
      exact gn
  · rcases ix e with e | ⟨hi, q⟩
    · have hi : i < S.length := by
        rw [k.len]
        (exact (List.getElem?_eq_some_iff.mp e).1)
      rw [List.getElem?_append_left hi] at ec
      cases k.cell i a c e ec with
      | lst h1 r => exact .lst (sH _ _ h1) (r.mono (Sub.refl _) pr)
      | ins h1 h2 r => exact .ins (sH _ _ h1) h2 (r.mono (Sub.refl _) pr)
    · rw [hi, ← k.len] at ec
      simp at ec
      subst ec
      rw [q]
      exact .lst upd_same (r.mono (Sub.refl _) pr)
  · have hm' : a ∈ w.φ ++ [p] := hm
    rcases List.mem_append.mp hm' with hm | hm
    · exact .inl hm
    · have e : a = p := by simpa using hm
      exact .inr (Wd.fr_of (e ▸ h))
/-- a live object written -/
theorem Wd.ok.put (k : w.ok T S) {n : Nat} {a : Addr} {o : HO} {c : Cell} (ha : w.φ[n]? = some a) (hc : CellOk T (Wd.mk (upd w.H a o) w.G w.φ) a c) :
    (Wd.mk (upd w.H a o) w.G w.φ).ok T (S.set n c) ∧ w.le (Wd.mk (upd w.H a o) w.G w.φ) := by
  have gn := k.live n a ha
  have sH : ∀ b u, w.H b = some u → b ≠ a → upd w.H a o b = some u := fun b u e q => by rw [upd_ne q]; exact e
  obtain ⟨u0, hu0, hn1, hn2⟩ := k.live_ (List.mem_of_getElem? ha)
  refine ⟨⟨fun b u e => sH b u (k.sub b u e) (ne_of_none e gn), by simp [k.len], k.nd, k.live, fun i b c' e ec => ?_, k.gt, tabs_upd k.tab hu0 hn1 hn2⟩, ⟨Sub.refl _, Pre.refl _, fun b u e nm _ => sH b u e fun q => nm (q ▸ List.mem_of_getElem? ha), fun _ hm => .inl hm, fun _ _ e => .inl e⟩⟩
  by_cases q : i = n
  · subst q
    have e' : b = a := by
      have e : w.φ[i]? = some b := e
      rw [ha] at e
      exact (Option.some.inj e).symm
    rw [List.getElem?_set_self (by rw [k.len]; exact (List.getElem?_eq_some_iff.mp ha).1)] at ec
    cases ec
    rw [e']
    exact hc
  · rw [List.getElem?_set_ne (Ne.symm q)] at ec
    have nb : b ≠ a := fun z => q (k.nd i n a (z ▸ e) ha)
    cases k.cell i b c' e ec with
    | lst h1 r => exact .lst (sH _ _ h1 nb) r
    | ins h1 h2 r => exact .ins (sH _ _ h1 nb) h2 r
/-- the heap grew by things that are not ours -/
theorem Wd.ok.grow (k : w.ok T S) {p : Addr} {o : HO} (h : w.H p = none) : (Wd.mk (upd w.H p o) w.G w.φ).ok T S ∧ w.le (Wd.mk (upd w.H p o) w.G w.φ) := by
  have sH : ∀ a u, w.H a = some u → upd w.H p o a = some u := fun a u e => by rw [upd_ne (ne_of_none e h)]; exact e
  refine ⟨⟨fun a u e => sH a u (k.sub a u e), k.len, k.nd, k.live, fun i a c e ec => ?_, k.gt, tabs_new k.tab h⟩, ⟨Sub.refl _, Pre.refl _, fun a u e _ _ => sH a u e, fun a hm => .inl hm, fun a u e => .inl e⟩⟩
  cases k.cell i a c e ec with
  | lst h1 r => exact .lst (sH _ _ h1) r
  | ins h1 h2 r => exact .ins (sH _ _ h1) h2 r
end
end Pv
namespace Pv
open PySem L2
def ErrFs (T : Ks) (w : Wd) (c : Nat) (as : List D) (fs : List (Str × V)) : Prop :=
  ∃ vs, Reps T.K T.W w.G w.φ as vs ∧ as.length = (T.efl c).length ∧ ∀ (i : Nat) (n : Str) (v : V), (T.efl c)[i]? = some n → vs[i]? = some v → fs.lookup n = some v
/-- what is wanted of an answer: behind it the world has grown -/
def Post {α β : Type} (T : Ks) (R : Wd → α → β → Prop) (E : XK) (w : Wd) (r : Ro α) (Q : β → Hp → Prop) : Prop := match r with
  | .ok a S => ∀ w' b, w.le w' → w'.ok T S → R w' a b → Q b w'.H
  | .err c as S => ∀ w' dd fs, w.le w' → w'.ok T S → w'.H dd = some (.xd fs) → ErrFs T w' c as fs → E (.ref (T.ecl c)) (some dd) w'.H
  | .stuck => False
section
variable {α β γ δ : Type} {T : Ks} {E : XK} {w w1 : Wd} {S S1 : Store} {R : Wd → α → β → Prop} {R' : Wd → γ → δ → Prop} {r : Ro α} {Q : β → Hp → Prop} {Q' : δ → Hp → Prop}
theorem Post.shift (k : w.ok T S) (k1 : w1.ok T S1) (x : w.le w1) (h : Post T R E w r Q) : Post T R E w1 r Q := by
  cases r with
  | ok a S' => exact fun w' b y o q => h w' b (x.trans k k1 y) o q
  | err c as S' => exact fun w' dd fs y o q z => h w' dd fs (x.trans k k1 y) o q z
  | stuck => exact h
theorem Post.ok_ (h : Post T R E w (.ok a S) Q) (k : w.ok T S) {b : β} (q : R w a b) : Q b w.H := h w b (Wd.le.refl w) k q
theorem Post.bind {f : α → Store → Ro γ} (k : w.ok T S) (h : Post T R' E w (r.bind f) Q')
    (g : ∀ a S1 w1 b, r = .ok a S1 → w.le w1 → w1.ok T S1 → R w1 a b → Post T R' E w1 (f a S1) Q' → Q b w1.H) : Post T R E w r Q := by
  cases r with
  | ok a S1 => exact fun w1 b x k1 q => g a S1 w1 b rfl x k1 q (Post.shift k k1 x h)
  | err c as S' => exact h
  | stuck => exact h
end
/-- where values stand -/
abbrev RV (T : Ks) : Wd → D → V → Prop := fun w d v => Rep T.K T.W w.G w.φ d v
abbrev RVs (T : Ks) : Wd → List D → List V → Prop := fun w d v => Reps T.K T.W w.G w.φ d v
abbrev RB : Wd → D → Bool → Prop := fun _ d b => d = .bl b
abbrev RBo : Wd → Bool → Bool → Prop := fun _ d b => d = b
abbrev RO : Wd → Option Int → Option Int → Prop := fun _ d b => d = b
structure EnvR (T : Ks) (w : Wd) (e : Env) (σ : L2.St) : Prop where
  len : σ.length = e.length
  at_ : ∀ (i : Nat) (d : D), e[i]? = some (some d) → ∃ v, σ[i]? = some (some v) ∧ RV T w d v
section
variable {T : Ks} {w w' : Wd} {e : Env} {σ : L2.St}
theorem EnvR.le (h : EnvR T w e σ) (x : w.le w') : EnvR T w' e σ := ⟨h.len, fun i d q => let ⟨v, h1, h2⟩ := h.at_ i d q; ⟨v, h1, Rep.le x h2⟩⟩
theorem EnvR.get (h : EnvR T w e σ) {i : Nat} {d : D} (q : e.get i = some d) : ∃ v, σ[i]? = some (some v) ∧ RV T w d v := by
  refine h.at_ i d ?_
  unfold Env.get at q
  cases z : e[i]? with
  | none => rw [z] at q; cases q
  | some o =>
    rw [z] at q
    have q' : o = some d := q
    rw [q']
theorem EnvR.set (h : EnvR T w e σ) {d : D} {v : V} (i : Nat) (r : RV T w d v) : EnvR T w (e.set i (some d)) (σ.set i (some v)) := by
  refine ⟨by simp [h.len], fun j d' q => ?_⟩
  by_cases z : j = i
  · subst z
    by_cases hl : j < e.length
    · rw [List.getElem?_set_self hl] at q
      cases q
      exact ⟨v, by rw [List.getElem?_set_self (by rw [h.len]; exact hl)], r⟩
    · rw [List.getElem?_eq_none (by simp; omega)] at q
      cases q
  · rw [List.getElem?_set_ne (Ne.symm z)] at q
    obtain ⟨v', h1, h2⟩ := h.at_ j d' q
    exact ⟨v', by rw [List.getElem?_set_ne (Ne.symm z)]; exact h1, h2⟩
theorem EnvR.unset (h : EnvR T w e σ) (i : Nat) : EnvR T w (e.set i none) (σ.set i none) := by
  refine ⟨by simp [h.len], fun j d' q => ?_⟩
  by_cases z : j = i
  · subst z
    by_cases hl : j < e.length
    · rw [List.getElem?_set_self hl] at q
      cases q
    · rw [List.getElem?_eq_none (by simp; omega)] at q
      cases q
  · rw [List.getElem?_set_ne (Ne.symm z)] at q
    obtain ⟨v', h1, h2⟩ := h.at_ j d' q
    exact ⟨v', by rw [List.getElem?_set_ne (Ne.symm z)]; exact h1, h2⟩
theorem EnvR.wipe (h : EnvR T w e σ) : ∀ vs : List Nat, EnvR T w (Pv.wipe e vs) (L2.wipe σ vs)
  | [] => h
  | v :: vs => (h.wipe vs).unset v
theorem EnvR.setAll : ∀ {is : List Nat} {ds : List D} {vs : List V} {e : Env} {σ : L2.St}, EnvR T w e σ → Reps T.K T.W w.G w.φ ds vs → ds.length = is.length →
    EnvR T w (Pv.setAll e is ds) ((is.zip vs).foldl (fun s p => s.set p.1 (some p.2)) σ)
  | [], [], _, _, _, h, .nil, _ => h
  | i :: is, d :: ds, _, _, _, h, .cons r t, q => EnvR.setAll (is := is) (h.set i r) t (by simpa using q)
end
/-- a reading tells what the evaluator answers -/
def Snd {α β : Type} (T : Ks) (E : XK) (R : Wd → α → β → Prop) (t : L2.St → Hp → (β → Hp → Prop) → Prop) (r : Env → Store → Ro α) : Prop :=
  ∀ (w : Wd) (S : Store) (e : Env) (σ : L2.St) (Q : β → Hp → Prop), w.ok T S → EnvR T w e σ → Post T R E w (r e S) Q → t σ w.H Q
section
variable {T : Ks} {E : XK} {w : Wd} {S : Store}
/-- a list told by its items -/
theorem items_at (k : w.ok T S) {x : D} {v : V} {xs : List D} (r : RV T w x v) (h : x.items S = some xs) : ∃ a vs, v = .ref a ∧ w.H a = some (.lst vs) ∧ RVs T w xs vs := by
  cases r with
  | lst hg rs =>
    have e : some _ = some xs := h
    cases e
    exact ⟨_, _, rfl, k.sub _ _ hg, rs⟩
  | @obj a n hn =>
    have h' : (match S[n]? with | some (.lst xs) => some xs | _ => none) = some xs := h
    cases z : S[n]? with
    | none => rw [z] at h'; cases h'
    | some c =>
      rw [z] at h'
      have hc := k.cell n _ c hn z
      cases hc with
      | lst h1 rs =>
        cases h'
        exact ⟨_, _, rfl, h1, rs⟩
      | ins => cases h'
  | _ => cases h
theorem sql_of {K : PySem.W.Frag} {H : Hp} {a : Addr} {vs : List V} (h : H a = some (.lst vs)) : SqL K H a vs := Or.inl (Or.inl h)
theorem sqt_up {K : PySem.W.Frag} {a : Addr} {vs : List V} (k : w.ok T S) (h : SqT K w.G a vs) : SqT K w.H a vs := sub_t k.sub h
theorem sql_up {K : PySem.W.Frag} {a : Addr} {vs : List V} (k : w.ok T S) (h : SqL K w.G a vs) : SqL K w.H a vs := sub_l k.sub h
theorem SZ_eq : sizeLine = SZ := sizeLine_eq
/-- an answer that is a new list, a new tuple -/
theorem post_lst {Q : VK} (k : w.ok T S) {ds : List D} {vs : List V} (r : RVs T w ds vs) (h : Post T (RV T) E w (.ok (.lst ds) S) Q) (p : Addr) (hp : w.H p = none) : Q (.ref p) (upd w.H p (.lst vs)) := by
  obtain ⟨k1, x⟩ := k.freeze (o := .lst vs) hp
  exact h _ (.ref p) x k1 (.lst upd_same (r.mono x.sub x.pre))
theorem post_tup {Q : VK} (k : w.ok T S) {ds : List D} {vs : List V} (r : RVs T w ds vs) (h : Post T (RV T) E w (.ok (.tup ds) S) Q) (p : Addr) (hp : w.H p = none) : Q (.ref p) (upd w.H p (.tup vs)) := by
  obtain ⟨k1, x⟩ := k.freeze (o := .tup vs) hp
  exact h _ (.ref p) x k1 (.tup (SqT.of upd_same) (r.mono x.sub x.pre))
theorem post_nls {Q : VK} (k : w.ok T S) {ds : List D} {vs : List V} (r : RVs T w ds vs) (h : Post T (RV T) E w (.ok (.obj S.length) (S ++ [.lst ds])) Q) (p : Addr) (hp : w.H p = none) : Q (.ref p) (upd w.H p (.lst vs)) := by
  obtain ⟨k1, x⟩ := k.born hp r
  refine h _ (.ref p) x k1 (.obj ?_)
  show (w.φ ++ [p])[S.length]? = some p
  rw [k.len]
  simp
theorem post_val {Q : VK} (k : w.ok T S) {d : D} {v : V} (r : RV T w d v) (h : Post T (RV T) E w (.ok d S) Q) : Q v w.H := h w v (Wd.le.refl w) k r
theorem post_opt {β : Type} {R : Wd → D → β → Prop} {Q : β → Hp → Prop} {o : Option D} (h : Post T R E w (Ro.opt o S) Q) : ∃ d, o = some d ∧ Post T R E w (.ok d S) Q := by
  cases o with
  | none => exact h.elim
  | some d => exact ⟨d, rfl, h⟩
end
section
variable {X : Cx} {T : Ks} {E : XK} {w : Wd} {S : Store} {x y : D} {v u : V} {Q : VK}
def rAddD (K : PySem.W.Frag) : R2 := fun x y H Q => (rI0 (fun i j => .int (i + j)) x y H Q) ∨ (∃ i j, x = .str i ∧ y = .str j ∧ i.length + j.length ≤ sizeLine ∧ Q (.str (i ++ j)) H) ∨ rCatA K x y H Q ∨ rCat x y H Q
theorem op_addD : OpR X (binaryOp .Add) (rAddD X.K) := OpR.or op_add (OpR.or op_add_str (OpR.or op_catA op_cat))
theorem add_inv {d : D} (h : opD .add S x y = some d) : (∃ i j, x = .int i ∧ y = .int j ∧ d = .int (i + j)) ∨ (∃ a b, x = .str a ∧ y = .str b ∧ a.length + b.length ≤ SZ ∧ d = .str (a ++ b)) ∨
    (∃ a b, x = .tup a ∧ y = .tup b ∧ a.length + b.length ≤ SZ ∧ d = .tup (a ++ b)) ∨ (∃ a b, x.items S = some a ∧ y.items S = some b ∧ a.length + b.length ≤ SZ ∧ d = .lst (a ++ b)) := by
  unfold opD at h
  simp only at h
  split at h
  · cases h; exact .inl ⟨_, _, rfl, rfl, rfl⟩
  · split at h
    · cases h; exact .inr (.inl ⟨_, _, rfl, rfl, by assumption, rfl⟩)
    · cases h
  · split at h
    · cases h; exact .inr (.inr (.inl ⟨_, _, rfl, rfl, by assumption, rfl⟩))
    · cases h
  · split at h
    · split at h
      · cases h
        exact .inr (.inr (.inr ⟨_, _, by assumption, by assumption, by assumption, rfl⟩))
      · cases h
    · cases h
theorem add_leaf (k : w.ok T S) (rx : RV T w x v) (ry : RV T w y u) (h : Post T (RV T) E w (Ro.opt (opD .add S x y) S) Q) : rAddD T.K v u w.H Q := by
  obtain ⟨d, e, h⟩ := post_opt h
  rcases add_inv e with ⟨i, j, rfl, rfl, rfl⟩ | ⟨a, b, rfl, rfl, hl, rfl⟩ | ⟨a, b, rfl, rfl, hl, rfl⟩ | ⟨a, b, h1, h2, hl, rfl⟩
  · cases rx; cases ry
    exact .inl ⟨i, j, rfl, rfl, post_val k (.int _) h⟩
  · cases rx; cases ry
    refine .inr (.inl ⟨_, _, rfl, rfl, by rw [sv_len, sv_len, SZ_eq]; exact hl, ?_⟩)
    rw [sv_add]
    exact post_val k (.str _) h
  · cases rx with
    | tup hx rx =>
    cases ry with
    | tup hy ry =>
    refine .inr (.inr (.inl ⟨_, _, _, _, rfl, rfl, sqt_up k hx, sqt_up k hy, by rw [← rx.length, ← ry.length, SZ_eq]; exact hl, fun z => ?_, fun _ z => ?_, fun _ _ p hp => ?_⟩))
    · subst z
      cases rx
      exact post_val k (.tup hy ry) h
    · subst z
      cases ry
      rw [List.append_nil] at h
      exact post_val k (.tup hx rx) h
    · exact post_tup k (rx.append ry) h p hp
  · obtain ⟨p, vs, rfl, hp, r1⟩ := items_at k rx h1
    obtain ⟨q, us, rfl, hq, r2⟩ := items_at k ry h2
    refine .inr (.inr (.inr ⟨p, q, vs, us, rfl, rfl, hp, hq, by rw [← r1.length, ← r2.length, SZ_eq]; exact hl, fun a ha => ?_⟩))
    exact post_lst k (r1.append r2) h a ha
theorem sub_leaf (k : w.ok T S) (rx : RV T w x v) (ry : RV T w y u) (h : Post T (RV T) E w (Ro.opt (opD .sub S x y) S) Q) : rI0 (fun i j => .int (i - j)) v u w.H Q := by
  obtain ⟨d, e, h⟩ := post_opt h
  unfold opD at e
  simp only at e
  split at e
  · cases e; cases rx; cases ry
    exact ⟨_, _, rfl, rfl, post_val k (.int _) h⟩
  · cases e
theorem fdiv_leaf (k : w.ok T S) (rx : RV T w x v) (ry : RV T w y u) (h : Post T (RV T) E w (Ro.opt (opD .fdiv S x y) S) Q) : rI CDivN (fun i j => .int (i.fdiv j)) v u w.H Q := by
  obtain ⟨d, e, h⟩ := post_opt h
  unfold opD at e
  simp only at e
  split at e
  · split at e
    · cases e; cases rx; cases ry
      exact ⟨_, _, rfl, rfl, by assumption, post_val k (.int _) h⟩
    · cases e
  · cases e
theorem mod_leaf (k : w.ok T S) (rx : RV T w x v) (ry : RV T w y u) (h : Post T (RV T) E w (Ro.opt (opD .mod S x y) S) Q) : rI (fun _ j => j ≠ 0) (fun i j => .int (i.fmod j)) v u w.H Q := by
  obtain ⟨d, e, h⟩ := post_opt h
  unfold opD at e
  simp only at e
  split at e
  · split at e
    · cases e; cases rx; cases ry
      exact ⟨_, _, rfl, rfl, by assumption, post_val k (.int _) h⟩
    · cases e
  · cases e
theorem pow_leaf (k : w.ok T S) (rx : RV T w x v) (ry : RV T w y u) (h : Post T (RV T) E w (Ro.opt (opD .pow S x y) S) Q) : rI CPow (fun i j => .int (i ^ j.toNat)) v u w.H Q := by
  obtain ⟨d, e, h⟩ := post_opt h
  unfold opD at e
  simp only at e
  split at e
  · split at e
    · cases e; cases rx; cases ry
      exact ⟨_, _, rfl, rfl, by assumption, post_val k (.int _) h⟩
    · cases e
  · cases e
theorem flat_rep (x : Array Nat) : ∀ (k : Nat) (acc : Array Nat), ((List.replicate k x).foldl (· ++ ·) acc).toList = acc.toList ++ (List.replicate k x.toList).flatten
  | 0, acc => by simp
  | k + 1, acc => by
    rw [List.replicate_succ, List.foldl_cons, flat_rep x k, List.replicate_succ, List.flatten_cons]
    simp
theorem mul_sv (a : List Nat) (k : Int) (h0 : 0 ≤ k) : Txt.mul (sv a) k = sv (List.replicate k.toNat a).flatten := by
  have ext : ∀ {x y : Str}, x.cps.toList = y.cps.toList → x = y := fun {x y} h => by
    obtain ⟨x⟩ := x
    obtain ⟨y⟩ := y
    exact congrArg Str.mk (Array.ext' h)
  refine ext ?_
  unfold Txt.mul
  by_cases h1 : k < 1
  · rw [if_pos h1]
    have : k.toNat = 0 := by omega
    rw [this]
    rfl
  · rw [if_neg h1]
    by_cases h2 : (k == 1 || (sv a).length == 0) = true
    · rw [if_pos h2]
      rcases Bool.or_eq_true_iff.mp h2 with h2 | h2
      · have : k = 1 := by simpa using h2
        subst this
        simp [sv]
      · have e : a = [] := by
          have : (sv a).length = 0 := by simpa using h2
          rw [sv_len] at this
          exact List.length_eq_zero_iff.mp this
        subst e
        have : ∀ n : Nat, (List.replicate n ([] : List Nat)).flatten = [] := fun n => by induction n with
          | zero => rfl
          | succ n ih => rw [List.replicate_succ, List.flatten_cons, ih]; rfl
        rw [this]
    · rw [if_neg h2]
      show ((List.replicate k.toNat a.toArray).foldl (· ++ ·) #[]).toList = (sv (List.replicate k.toNat a).flatten).cps.toList
      rw [flat_rep]
      simp [sv]
theorem op_rep_str : OpR X (binaryOp .Mult) (fun x y H Q => ∃ z k, x = .str z ∧ y = .int k ∧ MulOk z k ∧ Q (.str (Txt.mul z k)) H) := by
  (intro pins s σ H x y v u Q I rx ry h)
  obtain ⟨z, k, rfl, rfl, ok, q⟩ := h
  obtain ⟨t, rfl⟩ := rx
  obtain ⟨t', rfl⟩ := ry
  exact SB.mul ok fun t'' k' => ⟨.str _, H, I.tok _, ⟨_, rfl⟩, q⟩
def rMulD : R2 := fun x y H Q => (rI CMul (fun i j => .int (i * j)) x y H Q) ∨ (∃ z k, x = .str z ∧ y = .int k ∧ MulOk z k ∧ Q (.str (Txt.mul z k)) H)
theorem op_mulD : OpR X (binaryOp .Mult) rMulD := OpR.or op_mul op_rep_str
theorem lim_ok {i j : Int} (h : (lim i || lim j) = true) : CMul i j := by
  unfold lim at h
  simp only [Bool.or_eq_true, Bool.and_eq_true, decide_eq_true_eq] at h
  exact h
theorem mul_leaf (k : w.ok T S) (rx : RV T w x v) (ry : RV T w y u) (h : Post T (RV T) E w (Ro.opt (opD .mul S x y) S) Q) : rMulD v u w.H Q := by
  obtain ⟨d, e, h⟩ := post_opt h
  unfold opD at e
  simp only at e
  split at e
  · split at e
    · cases e; cases rx; cases ry
      exact .inl ⟨_, _, rfl, rfl, lim_ok (by assumption), post_val k (.int _) h⟩
    · cases e
  · split at e
    · rename_i a n hc
      cases e; cases rx; cases ry
      obtain ⟨h1, h2, h3⟩ := hc
      refine .inr ⟨_, _, rfl, rfl, ⟨?_, fun _ _ => ?_, fun _ _ => ?_⟩, ?_⟩
      · simp only [Bool.or_eq_false_iff, decide_eq_false_iff_not]
        omega
      · rw [sv_len]
        intro q
        have hn : (1 : Int) ≤ n := by omega
        have h5 : (9223372036854 : Int) ≤ (2 ^ 63 - 1) / n := by
          have := Int.ediv_le_ediv (a := 9223372036854 * n) (b := 2 ^ 63 - 1) (c := n) (by omega) (by omega)
          rw [Int.mul_ediv_cancel _ (by omega)] at this
          exact this
        have h6 : a.length * 1 ≤ a.length * n.toNat := Nat.mul_le_mul_left _ (by omega)
        have h7 : SZ = 16777216 := rfl
        omega
      · rw [sv_len]
        unfold Builtin.Str.tooLong
        rw [SZ_eq]
        (exact decide_eq_false (by omega))
      · rw [mul_sv _ _ h2]
        exact post_val k (.str _) h
    · cases e
  · cases e
end
end Pv
namespace Pv
open PySem L2
mutual
def D.py : D → PyData
  | .bl b => .bool b
  | .int i => .int i
  | .str s => .str (sv s)
  | .lst xs => .list (D.pys xs)
  | .tup xs => .tuple (D.pys xs)
  | _ => .none
def D.pys : List D → List PyData
  | [] => []
  | x :: xs => D.py x :: D.pys xs
end
theorem okStr_sv {s : List Nat} (h : okStr s = true) : (sv s).cps.all (· < 0x110000) = true := by
  unfold sv
  unfold okStr at h
  simpa using h
theorem beq_sv (a b : List Nat) : (sv a == sv b) = (a == b) := by
  by_cases h : a = b
  · subst h; simp
  · have h' : ¬ sv a = sv b := fun q => h (sv_inj q)
    rw [beq_eq_false_iff_ne.mpr h, beq_eq_false_iff_ne.mpr h']
mutual
theorem py_lay : ∀ {d : D}, d.seen = true → d.py.canLay0 = true
  | .non, _ => by simp [D.py, PyData.canLay0]
  | .bl _, _ => by simp [D.py, PyData.canLay0]
  | .int _, _ => by simp [D.py, PyData.canLay0]
  | .str s, h => by simp only [D.py, PyData.canLay0]; exact okStr_sv (by simpa [D.seen] using h)
  | .lst xs, h => by simp only [D.py, PyData.canLay0]; exact pys_lay (by simpa [D.seen] using h)
  | .tup xs, h => by simp only [D.py, PyData.canLay0]; exact pys_lay (by simpa [D.seen] using h)
  | .scr _, h => by simp [D.seen] at h
  | .sdc _, h => by simp [D.seen] at h
  | .edc, h => by simp [D.seen] at h
  | .obj _, h => by simp [D.seen] at h
theorem pys_lay : ∀ {ds : List D}, D.seens ds = true → PyData.canLayAll0 (D.pys ds) = true
  | [], _ => by simp [D.pys, PyData.canLayAll0]
  | d :: ds, h => by
    simp only [D.seens, Bool.and_eq_true] at h
    simp only [D.pys, PyData.canLayAll0, py_lay h.1, pys_lay h.2, Bool.and_self]
end
mutual
theorem py_deep : ∀ d : D, d.py.depth ≤ d.deep
  | .non => by simp [D.py, PyData.depth]
  | .bl _ => by simp [D.py, PyData.depth]
  | .int _ => by simp [D.py, PyData.depth]
  | .str s => by simp [D.py, PyData.depth]
  | .lst xs => by simp only [D.py, PyData.depth, D.deep]; have := pys_deep xs; omega
  | .tup xs => by simp only [D.py, PyData.depth, D.deep]; have := pys_deep xs; omega
  | .scr _ => by simp [D.py, PyData.depth]
  | .sdc _ => by simp [D.py, PyData.depth]
  | .edc => by simp [D.py, PyData.depth]
  | .obj _ => by simp [D.py, PyData.depth]
theorem pys_deep : ∀ ds : List D, PyData.depthAll (D.pys ds) ≤ D.deeps ds
  | [] => by simp [D.pys, PyData.depthAll]
  | d :: ds => by
    simp only [D.pys, PyData.depthAll, D.deeps]
    have h1 := py_deep d
    have h2 := pys_deep ds
    omega
end
mutual
theorem py_eqv : ∀ {x y : D}, x.seen = true → y.seen = true → PyData.eqv x.py y.py = D.eqv x y
  | x, y, hx, hy => by
    cases x <;> cases y <;> simp only [D.py, PyData.eqv, D.eqv, beq_sv] <;> first
      | rfl
      | (simp [D.seen] at hx; done)
      | (simp [D.seen] at hy; done)
      | exact pys_eqv (by simpa [D.seen] using hx) (by simpa [D.seen] using hy)
theorem pys_eqv : ∀ {xs ys : List D}, D.seens xs = true → D.seens ys = true → PyData.eqvAll (D.pys xs) (D.pys ys) = D.eqvs xs ys
  | [], [], _, _ => by simp [D.pys, PyData.eqvAll, D.eqvs]
  | [], _ :: _, _, _ => by simp [D.pys, PyData.eqvAll, D.eqvs]
  | _ :: _, [], _, _ => by simp [D.pys, PyData.eqvAll, D.eqvs]
  | x :: xs, y :: ys, hx, hy => by
    simp only [D.seens, Bool.and_eq_true] at hx hy
    simp only [D.pys, PyData.eqvAll, D.eqvs, py_eqv hx.1 hy.1, pys_eqv hx.2 hy.2]
end
section
variable {T : Ks} {E : XK} {w : Wd} {S : Store}
theorem one_rep (k : w.ok T S) {x : D} {v : V} (r : RV T w x v) : (x.one S = x) ∨ (∃ xs, x.one S = .lst xs ∧ x.items S = some xs) := by
  cases x with
  | obj n =>
    cases z : S[n]? with
    | none => exact .inl (by simp [D.one, z])
    | some c =>
      cases c with
      | lst xs => exact .inr ⟨xs, by simp [D.one, z], by simp [D.items, z]⟩
      | ins c fs => exact .inl (by simp [D.one, z])
  | _ => exact .inl rfl
mutual
theorem dp_of (k : w.ok T S) : ∀ {d : D} {v : V}, d.seen = true → RV T w d v → Dp T.K w.H v d.py
  | _, _, _, .non => by simp only [D.py]; exact .non
  | _, _, _, .bl b => by simp only [D.py]; exact .bl b
  | _, _, _, .int b => by simp only [D.py]; exact .int b
  | _, _, _, .str b => by simp only [D.py]; exact .str _
  | _, _, h, .lst g r => by simp only [D.py]; exact .lst (sql_of (k.sub _ _ g)) (dps_of k (by simpa [D.seen] using h) r)
  | _, _, h, .tup g r => by simp only [D.py]; exact .tup (sqt_up k g) (dps_of k (by simpa [D.seen] using h) r)
  | _, _, h, .scr _ => by simp [D.seen] at h
  | _, _, h, .sdc _ _ => by simp [D.seen] at h
  | _, _, h, .edc _ => by simp [D.seen] at h
  | _, _, h, .obj _ => by simp [D.seen] at h
theorem dps_of (k : w.ok T S) : ∀ {ds : List D} {vs : List V}, D.seens ds = true → RVs T w ds vs → DpAll T.K w.H vs (D.pys ds)
  | _, _, _, .nil => by simp only [D.pys]; exact .nil
  | _, _, h, .cons r t => by
    simp only [D.seens, Bool.and_eq_true] at h
    simp only [D.pys]
    exact .cons (dp_of k h.1 r) (dps_of k h.2 t)
end
/-- what == looks at, at its first level too -/
theorem dp_one (k : w.ok T S) {x : D} {v : V} (r : RV T w x v) (h : (x.one S).seen = true) : Dp T.K w.H v (x.one S).py := by
  rcases one_rep k r with e | ⟨xs, e, h2⟩
  · rw [e] at h ⊢
    exact dp_of k h r
  · rw [e] at h ⊢
    obtain ⟨a, vs, rfl, ha, rs⟩ := items_at k r h2
    simp only [D.py]
    exact .lst (sql_of ha) (dps_of k (by simpa [D.seen] using h) rs)
theorem shaped_of {d : D} (h : d.seen = true) (h2 : d.deep ≤ 64) : SeqAt.shaped d.py = true := by
  unfold SeqAt.shaped
  rw [py_lay h]
  have := py_deep d
  simp
  omega
theorem scal_rep {x y : D} {v u : V} (rx : RV T w x v) (ry : RV T w y u) (h : D.scal x y = true) : L2.scal v u = true ∧ decide (v = u) = D.scEq x y := by
  cases rx <;> cases ry <;> first
    | (simp [D.scal] at h; done)
    | (refine ⟨rfl, ?_⟩; first
      | exact dec_int
      | exact dec_bl
      | exact dec_str.trans (beq_sv _ _)
      | (simp [D.scEq]; done))
def rEqA (K : PySem.W.Frag) : R2 := fun x y H Q => rEq x y H Q ∨ rEqD K x y H Q
def rNeA (K : PySem.W.Frag) : R2 := fun x y H Q => rNe x y H Q ∨ rNeD K x y H Q
theorem eq_leaf (k : w.ok T S) {x y : D} {v u : V} (rx : RV T w x v) (ry : RV T w y u) {b : Bool} (h : eqD S x y = some b) (Q : VK) (q : Q (.bl b) w.H) : rEqA T.K v u w.H Q := by
  unfold eqD at h
  by_cases z : D.scal x y = true
  · rw [if_pos z] at h
    cases h
    obtain ⟨h1, h2⟩ := scal_rep rx ry z
    exact .inl ⟨h1, by rw [h2]; exact q⟩
  · rw [if_neg z] at h
    simp only at h
    split at h
    · rename_i c
      simp only [Bool.and_eq_true, decide_eq_true_eq] at c
      obtain ⟨⟨⟨c1, c2⟩, c3⟩, c4⟩ := c
      cases h
      refine .inr ⟨_, _, dp_one k rx c1, dp_one k ry c2, shaped_of c1 c3, shaped_of c2 c4, ?_⟩
      rw [py_eqv c1 c2]
      exact q
    · cases h
theorem ne_leaf (k : w.ok T S) {x y : D} {v u : V} (rx : RV T w x v) (ry : RV T w y u) {b : Bool} (h : (eqD S x y).map (!·) = some b) (Q : VK) (q : Q (.bl b) w.H) : rNeA T.K v u w.H Q := by
  cases e : eqD S x y with
  | none => (rw [e] at h; cases h)
  | some c =>
    rw [e] at h
    have hb : (!c) = b := Option.some.inj h
    subst hb
    unfold eqD at e
    by_cases z : D.scal x y = true
    · rw [if_pos z] at e
      cases e
      obtain ⟨h1, h2⟩ := scal_rep rx ry z
      exact .inl ⟨h1, by rw [h2]; exact q⟩
    · rw [if_neg z] at e
      simp only at e
      split at e
      · rename_i c'
        simp only [Bool.and_eq_true, decide_eq_true_eq] at c'
        obtain ⟨⟨⟨c1, c2⟩, c3⟩, c4⟩ := c'
        cases e
        refine .inr ⟨_, _, dp_one k rx c1, dp_one k ry c2, shaped_of c1 c3, shaped_of c2 c4, ?_⟩
        rw [py_eqv c1 c2]
        exact q
      · cases e
def rSign (neg : Bool) : R2 := fun x y H Q => ∃ (c : Nat) (z : Str), x = .str ⟨#[c]⟩ ∧ y = .str z ∧ Q (.bl (if neg then !decide (c ∈ z.cps.toList) else decide (c ∈ z.cps.toList))) H
def rKd (K : PySem.W.Frag) (W : World) (neg : Bool) : R2 := fun x y H Q => ∃ (d : Addr) (es : Array DictEntry) (n : Nat) (z : Str) (r : Option Value), KDict K W d es n ∧ x = .str z ∧ y = .ref d ∧ PySem.W.nsIn K d z = some r ∧ Q (.bl (if neg then !r.isSome else r.isSome)) H
def rInA (K : PySem.W.Frag) (W : World) (neg : Bool) : R2 := fun x y H Q => rSign neg x y H Q ∨ rIn K neg x y H Q ∨ rKd K W neg x y H Q
theorem op_inA {X : Cx} : OpR X (compareOp .In) (rInA X.K X.w false) := OpR.or (fun pins s σ H x y v u Q I rx ry ⟨c, z, e1, e2, q⟩ => op_in_sign pins s σ H x y v u Q I rx ry ⟨c, z, e1, e2, q⟩)
  (OpR.or op_in_seq fun pins s σ H x y v u Q I rx ry ⟨_, _, _, z, r, D, e1, e2, e3, q⟩ => op_in_kd D pins s σ H x y v u Q I rx ry ⟨z, r, e1, e2, e3, q⟩)
theorem op_ninA {X : Cx} : OpR X (compareOp .NotIn) (rInA X.K X.w true) := OpR.or (fun pins s σ H x y v u Q I rx ry ⟨c, z, e1, e2, q⟩ => op_notIn_sign pins s σ H x y v u Q I rx ry ⟨c, z, e1, e2, q⟩)
  (OpR.or op_notIn_seq fun pins s σ H x y v u Q I rx ry ⟨_, _, _, z, r, D, e1, e2, e3, q⟩ => op_notIn_kd D pins s σ H x y v u Q I rx ry ⟨z, r, e1, e2, e3, q⟩)
theorem flat_rep' {x : D} {v : V} (r : RV T w x v) (h : x.flat = true) : flatV v = true := by
  cases r <;> first | rfl | (simp [D.flat] at h; done)
theorem flatEq_rep {x y : D} {v u : V} (rx : RV T w x v) (ry : RV T w y u) (hx : x.flat = true) (hy : y.flat = true) : eqV v u = D.flatEq x y := by
  cases rx <;> cases ry <;> first
    | rfl
    | (simp [D.flat] at hx; done)
    | (simp [D.flat] at hy; done)
    | (simp only [eqV, D.flatEq, beq_sv]; done)
theorem flats_rep : ∀ {xs : List D} {vs : List V}, RVs T w xs vs → xs.all D.flat = true → vs.all flatV = true
  | _, _, .nil, _ => rfl
  | _, _, .cons r t, h => by
    (rw [List.all_cons, Bool.and_eq_true] at h)
    rw [List.all_cons, flat_rep' r h.1, flats_rep t h.2, Bool.and_self]
theorem inV_rep {x : D} {v : V} (rx : RV T w x v) (hx : x.flat = true) : ∀ {xs : List D} {vs : List V}, RVs T w xs vs → xs.all D.flat = true → inV v vs = xs.any fun y => y.flatEq x
  | _, _, .nil, _ => rfl
  | _, _, .cons r t, h => by
    (rw [List.all_cons, Bool.and_eq_true] at h)
    have ih := inV_rep rx hx t h.2
    unfold inV at ih ⊢
    rw [List.any_cons, List.any_cons, flatEq_rep r rx h.1 hx, ih]
theorem in_leaf (k : w.ok T S) {x y : D} {v u : V} (rx : RV T w x v) (ry : RV T w y u) {b neg : Bool} (h : inD S x y = some b) (Q : VK) (q : Q (.bl (if neg then !b else b)) w.H) : rInA T.K T.W neg v u w.H Q := by
  have seq : ∀ {ys : List D} {us : List V} {a : Addr}, u = .ref a → (SqL T.K w.H a us ∨ SqT T.K w.H a us) → RVs T w ys us → (if x.flat && ys.all D.flat then some (ys.any fun y => y.flatEq x) else none) = some b → rInA T.K T.W neg v u w.H Q := fun {ys us a} e hs rs h => by
    split at h
    · rename_i c
      rw [Bool.and_eq_true] at c
      have hb := Option.some.inj h
      refine .inr (.inl ⟨a, us, e, hs, flat_rep' rx c.1, flats_rep rs c.2, ?_⟩)
      rw [inV_rep rx c.1 rs c.2, hb]
      exact q
    · cases h
  cases ry with
  | str s =>
    unfold inD at h
    simp only at h
    split at h
    · cases h
      cases rx
      exact .inl ⟨_, _, rfl, rfl, q⟩
    · cases h
  | lst g r => exact seq rfl (.inl (sql_of (k.sub _ _ g))) r h
  | tup g r => exact seq rfl (.inr (sqt_up k g)) r h
  | @obj a n hn =>
    have h' : (match S[n]? with | some (.lst ys) => (if x.flat && ys.all D.flat then some (ys.any fun y => y.flatEq x) else none) | _ => none) = some b := h
    cases z : S[n]? with
    | none => rw [z] at h'; cases h'
    | some c =>
      rw [z] at h'
      cases k.cell n a c hn z with
      | lst h1 r => exact seq rfl (.inl (sql_of h1)) r h'
      | ins => cases h'
  | sdc D r =>
    unfold inD at h
    simp only at h
    split at h
    · rename_i key
      have hb := Option.some.inj h
      cases rx
      obtain ⟨r0, e0, q0⟩ := r key
      refine .inr (.inr ⟨_, _, _, _, _, D, rfl, rfl, e0, ?_⟩)
      have e1 : r0.isSome = b := by
        rw [← hb]
        rename_i kvs _ _ _
        cases e2 : kvs.lookup key with
        | none =>
          rw [e2] at q0
          rw [RelO.none_of q0]
          rfl
        | some i =>
          rw [e2] at q0
          obtain ⟨z, e3, _⟩ := RelO.some_of q0
          rw [e3]
          rfl
      rw [e1]
      exact q
    · cases h
  | _ => cases h
end
end Pv
namespace Pv
open PySem L2
section
variable {T : Ks} {E : XK} {w : Wd} {S : Store}
theorem empty_rep {ds : List D} {vs : List V} (r : RVs T w ds vs) : (!ds.isEmpty) = (!vs.isEmpty) := by cases r <;> rfl
theorem tru_leaf (k : w.ok T S) {x : D} {v : V} (r : RV T w x v) {b : Bool} (h : x.truth S = some b) : TruV T.K v w.H b := by
  cases r with
  | non => cases h; rfl
  | bl => cases h; rfl
  | int => cases h; rfl
  | str s =>
    unfold D.truth at h
    simp only at h
    split at h
    · rename_i c
      cases h
      refine ⟨by rw [sv_len, SZ_eq]; exact c, ?_⟩
      rw [sv_len]
      cases s with
      | nil => rfl
      | cons a s =>
        rw [List.length_cons]
        simp only [List.isEmpty_cons, Bool.not_false]
        symm
        simp only [bne_iff_ne, ne_eq]
        omega
    · cases h
  | lst g r => cases h; exact .inl ⟨_, sql_of (k.sub _ _ g), empty_rep r⟩
  | tup g r => cases h; exact .inr (.inl ⟨_, sqt_up k g, empty_rep r⟩)
  | @obj a n hn =>
    have h' : (match S[n]? with | some (.lst xs) => some (!xs.isEmpty) | _ => none) = some b := h
    cases z : S[n]? with
    | none => rw [z] at h'; cases h'
    | some c =>
      rw [z] at h'
      cases k.cell n a c hn z with
      | lst h1 r => cases h'; exact .inl ⟨_, sql_of h1, empty_rep r⟩
      | ins => cases h'
  | _ => cases h
theorem ixN_eq (n : Nat) (i : Int) : L2.ixN n i = Pv.ixN n i := rfl
theorem at_rep {xs : List D} {vs : List V} (r : RVs T w xs vs) {i : Int} {d : D} (h : Pv.atI xs i = some d) : ∃ v, L2.atI vs i = some v ∧ RV T w d v := by
  unfold Pv.atI at h
  obtain ⟨j, hj, hd⟩ := Option.bind_eq_some_iff.mp h
  obtain ⟨v, hv, rv⟩ := r.get hd
  refine ⟨v, ?_, rv⟩
  unfold L2.atI
  rw [ixN_eq, ← r.length, hj]
  exact hv
def rIxA (K : PySem.W.Frag) (W : World) : R2 := fun x y H Q => rIx K x y H Q ∨ rIxD K W x y H Q
theorem ix_any {X : Cx} : IxR X (rIxA X.K X.w) := IxR.or ix_seq ix_kdict
theorem ix_leaf (k : w.ok T S) {x y : D} {v u : V} (rx : RV T w x v) (ry : RV T w y u) {d : D} (h : ixD S x y = some d) (Q : VK) (q : ∀ z, RV T w d z → Q z w.H) : rIxA T.K T.W v u w.H Q := by
  cases rx with
  | lst g r =>
    cases ry <;> first | (cases h; done) | skip
    obtain ⟨z, h1, h2⟩ := at_rep r h
    exact .inl (.inl ⟨_, _, _, z, rfl, rfl, sql_of (k.sub _ _ g), h1, q z h2⟩)
  | tup g r =>
    cases ry <;> first | (cases h; done) | skip
    obtain ⟨z, h1, h2⟩ := at_rep r h
    exact .inl (.inr (.inl ⟨_, _, _, z, rfl, rfl, sqt_up k g, h1, q z h2⟩))
  | str s =>
    cases ry <;> first | (cases h; done) | skip
    unfold ixD at h
    simp only at h
    split at h
    · rename_i hl
      obtain ⟨c, hc, e⟩ := Option.map_eq_some_iff.mp h
      subst e
      exact .inl (.inr (.inr ⟨_, _, c, rfl, rfl, by rw [sv_len, SZ_eq]; exact hl, hc, q _ (.str [c])⟩))
    · cases h
  | @obj a n hn =>
    cases ry <;> first | (cases h; done) | skip
    rename_i i
    have h' : (match S[n]? with | some (.lst xs) => Pv.atI xs i | _ => none) = some d := h
    cases z : S[n]? with
    | none => rw [z] at h'; cases h'
    | some c =>
      rw [z] at h'
      cases k.cell n a c hn z with
      | lst h1 r =>
        obtain ⟨z, h2, h3⟩ := at_rep r h'
        exact .inl (.inl ⟨_, _, _, z, rfl, rfl, sql_of h1, h2, q z h3⟩)
      | ins => cases h'
  | sdc D r =>
    cases ry <;> first | (cases h; done) | skip
    rename_i kvs es n key
    obtain ⟨i, hi, e⟩ := Option.map_eq_some_iff.mp h
    subst e
    obtain ⟨r0, e0, q0⟩ := r key
    rw [hi] at q0
    obtain ⟨z, e3, rz⟩ := RelO.some_of q0
    exact .inr ⟨_, _, _, rfl, rfl, ⟨es, n, z, D.at_, D.lit, by rw [e0, e3], rz⟩, q _ (.int i)⟩
  | _ => cases h
theorem sIx_eq (n d : Nat) (o : Option Int) : HT.sIx n d o = Pv.sIx n d o := by cases o <;> rfl
theorem cut_sv (s : List Nat) (lo hi : Option Int) : cutS (sv s) lo hi = sv (cut s lo hi) := by
  unfold cutS cut
  rw [sv_len, sIx_eq, sIx_eq] <;> rfl
theorem cut_rep {xs : List D} {vs : List V} (r : RVs T w xs vs) (lo hi : Option Int) : RVs T w (cut xs lo hi) (cutV vs lo hi) := by
  unfold cut cutV
  rw [sIx_eq, sIx_eq, r.length]
  exact (r.drop _).take _
def rSlAll (K : PySem.W.Frag) : V → Option Int → Option Int → Hp → VK → Prop := fun x lo hi H Q => rSlS x lo hi H Q ∨ rSlA K x lo hi H Q ∨ rSlL K x lo hi H Q
theorem sl_any {X : Cx} : SlR X (rSlAll X.K) := SlR.or sl_str (SlR.or sl_tupA sl_list)
theorem cut_whole {α : Type} {xs : List α} {lo hi : Option Int} (h1 : Pv.sIx xs.length 0 lo = 0) (h2 : Pv.sIx xs.length xs.length hi = xs.length) : cut xs lo hi = xs := by
  unfold cut
  rw [h1, h2]
  simp
theorem sl_leaf (k : w.ok T S) {x : D} {v : V} (rx : RV T w x v) {lo hi : Option Int} {Q : VK} (h : Post T (RV T) E w (Ro.opt (slcD S x lo hi) S) Q) : rSlAll T.K v lo hi w.H Q := by
  obtain ⟨d, e, h⟩ := post_opt h
  have lst : ∀ {y : D}, (y.items S).map (fun xs => D.lst (cut xs lo hi)) = some d → RV T w y v → rSlAll T.K v lo hi w.H Q := fun {y} e ry => by
    obtain ⟨xs, h1, h2⟩ := Option.map_eq_some_iff.mp e
    subst h2
    obtain ⟨a, vs, rfl, ha, rs⟩ := items_at k ry h1
    exact .inr (.inr ⟨a, vs, rfl, sql_of ha, fun p hp => post_lst k (cut_rep rs lo hi) h p hp⟩)
  unfold slcD at e
  split at e
  · split at e
    · rename_i s hl
      cases e; cases rx
      refine .inl ⟨_, rfl, by rw [sv_len, SZ_eq]; exact hl, ?_⟩
      rw [cut_sv]
      exact post_val k (.str _) h
    · cases e
  · cases e
    cases rx with
    | tup g r =>
    refine .inr (.inl ⟨_, _, rfl, sqt_up k g, fun c => ?_, fun _ p hp => post_tup k (cut_rep r lo hi) h p hp⟩)
    rw [sIx_eq, sIx_eq, ← r.length] at c
    rw [cut_whole c.1 c.2] at h
    exact post_val k (.tup g r) h
  · exact lst e rx
theorem len_leaf (k : w.ok T S) {x : D} {v : V} (rx : RV T w x v) {n : Nat} (h : lenD S x = some n) : LenV T.K v w.H n := by
  cases rx with
  | str s =>
    unfold lenD at h
    simp only at h
    split at h
    · rename_i c
      cases h
      exact ⟨by rw [sv_len, SZ_eq]; exact c, by rw [sv_len]⟩
    · cases h
  | lst g r => cases h; exact .inl ⟨_, sql_of (k.sub _ _ g), r.length⟩
  | tup g r => cases h; exact .inr ⟨_, sqt_up k g, r.length⟩
  | @obj a m hn =>
    have h' : (match S[m]? with | some (.lst xs) => some xs.length | _ => none) = some n := h
    cases z : S[m]? with
    | none => rw [z] at h'; cases h'
    | some c =>
      rw [z] at h'
      cases k.cell m a c hn z with
      | lst h1 r => cases h'; exact .inl ⟨_, sql_of h1, r.length⟩
      | ins => cases h'
  | _ => cases h
theorem dig_all {r : List Nat} (h : r.all isDig = true) : NumText.AllDigits r := fun c hc => by
  have := List.all_eq_true.mp h c hc
  unfold isDig at this
  simpa using this
theorem intS_ok {s : List Nat} {i : Int} (h : intS s = some i) : PySem.intText? (sv s) = some i ∧ (sv s).length ≤ 640 := by
  unfold intS at h
  split at h
  · split at h
    · rename_i r c
      obtain ⟨c1, c2, c3⟩ := c
      cases h
      exact ⟨intText_neg (x := sv (45 :: r)) rfl (dig_all c2) c1 (by rw [sv_len, List.length_cons]; omega), by rw [sv_len, List.length_cons]; omega⟩
    · cases h
  · split at h
    · rename_i c
      obtain ⟨c1, c2, c3⟩ := c
      cases h
      exact ⟨intText_digits (x := sv _) (dig_all c2) c1 (by rw [sv_len]; omega), by rw [sv_len]; omega⟩
    · cases h
def rIntA : List V → Hp → VK → Prop := fun xs H Q => ((∃ i, xs = [.int i] ∧ Q (.int i) H) ∨ ∃ k, xs = [.bl k] ∧ Q (.int (if k then 1 else 0)) H) ∨ ∃ a n, xs = [.str a] ∧ PySem.intText? a = some n ∧ a.length ≤ 640 ∧ Q (.int n) H
theorem call_intA {X : Cx} : CallR X (.type "int") rIntA := CallR.or call_int1 call_int_str
theorem num_sv (i : Int) : (toString i : Str) = sv (numS i) := by
  show Str.ofString (toString i) = _
  refine TL.ext_tl ?_
  rw [TL.tl_ofString] <;> rfl
theorem log_lt {i : Int} (h : i.natAbs < 2 ^ 200) : i.natAbs.log2 < 1920 := by
  by_cases z : i.natAbs = 0
  · rw [z]; decide
  · have := (Nat.log2_lt z).mpr (Nat.lt_trans h (Nat.pow_lt_pow_right (by decide) (by decide : 200 < 1920)))
    exact this
theorem signs_rep : ∀ s : List Nat, RVs T w (s.map fun c => D.str [c]) (s.map fun c => V.str ⟨#[c]⟩)
  | [] => .nil
  | c :: s => .cons (.str [c]) (signs_rep s)
theorem call_list_strR {X : Cx} (hc : X.calm = true) : CallR X (.type "list") (fun xs H Q => ∃ a : Str, xs = [.str a] ∧ a.length ≤ sizeLine ∧ ∀ p, H p = none → Q (.ref p) (upd H p (.lst (a.cps.toList.map fun c => V.str ⟨#[c]⟩)))) := by
  (intro pins s σ H xs us Q I r h)
  obtain ⟨a, rfl, hl, q⟩ := h
  (obtain ⟨u, rfl, ru⟩ := vals1 r)
  obtain ⟨t, rfl⟩ := ru
  refine call_list_str (I.ok.hd hc) a t (fun h' tk acc c' hk hS hacc => ?_) (by exact hl)
  have hv : Vals (a.cps.toList.map fun c => V.str ⟨#[c]⟩) acc.toList := by
    have : ∀ (n : Nat) (l : List Nat) (m : List Value), a.cps.toList.drop n = l → acc.toList.drop n = m → Vals (l.map fun c => V.str ⟨#[c]⟩) m := by
      intro n l
      induction l generalizing n with
      | nil =>
        intro m h1 h2
        have : m = [] := by
          rw [← h2]
          apply List.drop_eq_nil_of_le
          have := congrArg List.length h1
          simp at this
          have h3 := hacc.1
          simp
          omega
        subst this
        exact .nil
      | cons c l ih =>
        intro m h1 h2
        have hc : a.cps.toList[n]? = some c := by
          have := congrArg (fun l => l[0]?) h1
          simpa using this
        have hn : n < acc.toList.length := by
          have h3 := hacc.1
          have := (List.getElem?_eq_some_iff.mp hc).1
          simp at this ⊢
          omega
        have h4 := List.drop_eq_getElem_cons hn
        rw [h2] at h4
        subst h4
        obtain ⟨c2, u2, e1, e2⟩ := hacc.2 n acc.toList[n] (by rw [← Array.getElem?_toList, List.getElem?_eq_getElem hn])
        have e3 : c2 = c := by
          rw [← Array.getElem?_toList, hc] at e1
          exact (Option.some.inj e1).symm
        subst e3
        refine .cons ⟨u2, e2⟩ (ih (n + 1) _ ?_ rfl)
        have := congrArg (List.drop 1) h1
        rw [List.drop_drop] at this
        exact this
    exact this 0 _ _ rfl rfl
  refine ⟨.ref s.heap.objs.size, _, I.laid (a := s.heap.objs.size) (o := .lst (a.cps.toList.map fun c => V.str ⟨#[c]⟩)) hk (Nat.le_refl _) ⟨?_, acc.toList, c', hv, by simpa using hS⟩, rfl, q _ (I.hok.fresh (Nat.le_refl _))⟩
  rw [List.length_map]
  exact hl
def rListA (K : PySem.W.Frag) : List V → Hp → VK → Prop := fun xs H Q => (∃ p ys, xs = [.ref p] ∧ (SqL K H p ys ∨ SqT K H p ys) ∧ ∀ l, H l = none → Q (.ref l) (upd H l (.lst ys))) ∨
  ∃ a : Str, xs = [.str a] ∧ a.length ≤ sizeLine ∧ ∀ p, H p = none → Q (.ref p) (upd H p (.lst (a.cps.toList.map fun c => V.str ⟨#[c]⟩)))
theorem call_listA {X : Cx} (hc : X.calm = true) : CallR X (.type "list") (rListA X.K) := CallR.or call_list_of (call_list_strR hc)
/-- list(x): what stands in it -/
theorem list_leaf (k : w.ok T S) {x : D} {v : V} (rx : RV T w x v) {ds : List D} (h : biD .list S x = some (.lst ds)) {Q : VK} (q : ∀ vs, RVs T w ds vs → ∀ p, w.H p = none → Q (.ref p) (upd w.H p (.lst vs))) : rListA T.K [v] w.H Q := by
  have lst : (x.items S).map D.lst = some (.lst ds) → rListA T.K [v] w.H Q := fun e => by
    obtain ⟨xs, h1, h2⟩ := Option.map_eq_some_iff.mp e
    cases h2
    obtain ⟨a, vs, rfl, ha, rs⟩ := items_at k rx h1
    exact .inl ⟨a, vs, rfl, .inl (sql_of ha), fun p hp => q vs rs p hp⟩
  cases rx with
  | tup g r => cases h; exact .inl ⟨_, _, rfl, .inr (sqt_up k g), fun p hp => q _ r p hp⟩
  | scr g => cases h; exact .inl ⟨_, _, rfl, .inl (sql_up k g), fun p hp => q _ Reps.ints p hp⟩
  | str s =>
    unfold biD at h
    simp only at h
    split at h
    · rename_i hl
      cases h
      exact .inr ⟨_, rfl, by rw [sv_len, SZ_eq]; exact hl, fun p hp => q _ (signs_rep s) p hp⟩
    · cases h
  | _ => exact lst h
theorem tuple_leaf (k : w.ok T S) {x : D} {v : V} (rx : RV T w x v) {Q : VK} (h : Post T (RV T) E w (Ro.opt (biD .tuple S x) S) Q) :
    ∃ p ys, [v] = [V.ref p] ∧ ((SqL T.K w.H p ys ∧ ∀ l, w.H l = none → Q (.ref l) (upd w.H l (.tup ys))) ∨ (SqT T.K w.H p ys ∧ Q (.ref p) w.H)) := by
  obtain ⟨d, e, h⟩ := post_opt h
  have lst : (x.items S).map D.tup = some d → ∃ p ys, [v] = [V.ref p] ∧ ((SqL T.K w.H p ys ∧ ∀ l, w.H l = none → Q (.ref l) (upd w.H l (.tup ys))) ∨ (SqT T.K w.H p ys ∧ Q (.ref p) w.H)) := fun e => by
    obtain ⟨xs, h1, h2⟩ := Option.map_eq_some_iff.mp e
    subst h2
    obtain ⟨a, vs, rfl, ha, rs⟩ := items_at k rx h1
    exact ⟨a, vs, rfl, .inl ⟨sql_of ha, fun p hp => post_tup k rs h p hp⟩⟩
  cases rx with
  | tup g r => cases e; exact ⟨_, _, rfl, .inr ⟨sqt_up k g, post_val k (.tup g r) h⟩⟩
  | _ => exact lst e
theorem ints_rep : ∀ {xs : List D} {vs : List V} {ns : List Int}, RVs T w xs vs → intsOf xs = some ns → vs = ns.map V.int
  | _, _, _, .nil, h => by cases h; rfl
  | _, _, _, .cons (d := .int i) r t, h => by
    obtain ⟨ms, h1, h2⟩ := Option.map_eq_some_iff.mp (show (intsOf _).map (i :: ·) = some _ from h)
    subst h2
    cases r
    rw [ints_rep t h1]
    rfl
  | _, _, _, .cons (d := .non) _ _, h => by cases h
  | _, _, _, .cons (d := .bl _) _ _, h => by cases h
  | _, _, _, .cons (d := .str _) _ _, h => by cases h
  | _, _, _, .cons (d := .lst _) _ _, h => by cases h
  | _, _, _, .cons (d := .tup _) _ _, h => by cases h
  | _, _, _, .cons (d := .scr _) _ _, h => by cases h
  | _, _, _, .cons (d := .sdc _) _ _, h => by cases h
  | _, _, _, .cons (d := .edc) _ _, h => by cases h
  | _, _, _, .cons (d := .obj _) _ _, h => by cases h
theorem bls_rep : ∀ {xs : List D} {vs : List V} {ns : List Bool}, RVs T w xs vs → blsOf xs = some ns → vs = ns.map V.bl
  | _, _, _, .nil, h => by cases h; rfl
  | _, _, _, .cons (d := .bl i) r t, h => by
    obtain ⟨ms, h1, h2⟩ := Option.map_eq_some_iff.mp (show (blsOf _).map (i :: ·) = some _ from h)
    subst h2
    cases r
    rw [bls_rep t h1]
    rfl
  | _, _, _, .cons (d := .non) _ _, h => by cases h
  | _, _, _, .cons (d := .int _) _ _, h => by cases h
  | _, _, _, .cons (d := .str _) _ _, h => by cases h
  | _, _, _, .cons (d := .lst _) _ _, h => by cases h
  | _, _, _, .cons (d := .tup _) _ _, h => by cases h
  | _, _, _, .cons (d := .scr _) _ _, h => by cases h
  | _, _, _, .cons (d := .sdc _) _ _, h => by cases h
  | _, _, _, .cons (d := .edc) _ _, h => by cases h
  | _, _, _, .cons (d := .obj _) _ _, h => by cases h
theorem strs_rep : ∀ {xs : List D} {vs : List V} {ns : List (List Nat)}, RVs T w xs vs → strsOf xs = some ns → vs = (ns.map sv).map V.str
  | _, _, _, .nil, h => by cases h; rfl
  | _, _, _, .cons (d := .str i) r t, h => by
    obtain ⟨ms, h1, h2⟩ := Option.map_eq_some_iff.mp (show (strsOf _).map (i :: ·) = some _ from h)
    subst h2
    cases r
    rw [strs_rep t h1]
    rfl
  | _, _, _, .cons (d := .non) _ _, h => by cases h
  | _, _, _, .cons (d := .int _) _ _, h => by cases h
  | _, _, _, .cons (d := .bl _) _ _, h => by cases h
  | _, _, _, .cons (d := .lst _) _ _, h => by cases h
  | _, _, _, .cons (d := .tup _) _ _, h => by cases h
  | _, _, _, .cons (d := .scr _) _ _, h => by cases h
  | _, _, _, .cons (d := .sdc _) _ _, h => by cases h
  | _, _, _, .cons (d := .edc) _ _, h => by cases h
  | _, _, _, .cons (d := .obj _) _ _, h => by cases h
end
end Pv
namespace Pv
open PySem L2
def Ty.nm : Ty → String
  | .str => "str" | .int => "int" | .bool => "bool" | .list => "list" | .tuple => "tuple" | .dict => "dict"
def tyN : Option Ty → String
  | none => "NoneType"
  | some t => t.nm
theorem kit_tab (t : Option Ty) (U : Ty) : kitB (tyN t) U.nm = some (Ty.sub t U) := by
  cases t with
  | none => cases U <;> decide +kernel
  | some t => cases t <;> cases U <;> decide +kernel
theorem kit_all (K : PySem.W.Frag) (t : Option Ty) : ∀ ts : List Ty, PySem.W.kitAny K (.type (tyN t)) (ts.map fun U => Value.type U.nm) = some (ts.any (Ty.sub t))
  | [] => rfl
  | U :: ts => by
    rw [List.map_cons, List.any_cons]
    cases e : Ty.sub t U with
    | true => exact kitAny_cons (kit_ty ((kit_tab t U).trans (by rw [e]))) (fun z => by cases z) (fun _ => rfl)
    | false => exact kitAny_cons (kit_ty ((kit_tab t U).trans (by rw [e]))) (fun _ => kit_all K t ts) (fun z => by cases z)
section
variable {T : Ks} {E : XK} {w : Wd} {S : Store}
theorem tyx_tup (k : w.ok T S) {a : Addr} {vs : List V} (g : SqT T.K w.G a vs) : TyX T.K w.H (.ref a) (.type "tuple") := by
  rcases g with (g | ⟨o, g⟩) | ⟨o, its, n, g, c, _⟩
  · exact .base (.tup (k.sub _ _ g))
  · exact .fTuple (k.sub _ _ g)
  · exact .kTuple g c
theorem isi_leaf (k : w.ok T S) {x : D} {v : V} (rx : RV T w x v) {ts : List Ty} {b : Bool} (h : isiD S x ts = some b) : ∃ t, TyX T.K w.H v (.type (tyN t)) ∧ ts.any (Ty.sub t) = b := by
  cases rx with
  | non =>
    refine ⟨none, .base .non, ?_⟩
    have h' : some false = some b := h
    cases h'
    have : ∀ ts : List Ty, ts.any (Ty.sub none) = false := fun ts => by
      induction ts with
      | nil => rfl
      | cons U ts ih => rw [List.any_cons, ih]; rfl
    exact this ts
  | bl => cases h; exact ⟨some .bool, .base (.bl _), rfl⟩
  | int => cases h; exact ⟨some .int, .base (.int _), rfl⟩
  | str => cases h; exact ⟨some .str, .base (.str _), rfl⟩
  | lst g r => cases h; exact ⟨some .list, .base (.lst (k.sub _ _ g)), rfl⟩
  | tup g r => cases h; exact ⟨some .tuple, tyx_tup k g, rfl⟩
  | edc g => cases h; exact ⟨some .dict, .base (.dK (k.sub _ _ g)), rfl⟩
  | @obj a n hn =>
    have h' : (match S[n]? with | some (.lst _) => some (ts.any (Ty.sub (some .list))) | _ => none) = some b := h
    cases z : S[n]? with
    | none => rw [z] at h'; cases h'
    | some c =>
      rw [z] at h'
      cases k.cell n a c hn z with
      | lst h1 r => cases h'; exact ⟨some .list, .base (.lst h1), rfl⟩
      | ins => cases h'
  | _ => cases h
end
theorem split_c (c : Nat) : ∀ (s acc : List Nat), TL.spl [c] 0 acc s = splitC c acc s
  | [], _ => rfl
  | x :: r, acc => by
    have hp : TL.pre [c] (x :: r) = decide (x = c) := by
      unfold TL.pre
      by_cases h : x = c
      · subst h; simp
      · simp [h]
    by_cases h : x = c
    · rw [TL.spl_hit (by rw [hp]; exact decide_eq_true h)]
      show acc :: TL.spl [c] 0 [] r = _
      rw [split_c c r []]
      unfold splitC
      rw [if_pos h]
      cases r <;> rfl
    · rw [TL.spl_miss (by rw [hp]; exact decide_eq_false h), split_c c r (acc ++ [x])]
      conv => rhs; unfold splitC
      rw [if_neg h]
theorem split_sv (s : List Nat) (c : Nat) (hc : c < 256) : Txt.split (sv s) ⟨#[c]⟩ = (splitC c [] s).map sv := by
  have h := TL.split_spl (sv s) ⟨#[c]⟩ (by simp [TL.tl]) (TL.kind_ok (by simpa using hc))
  have e : TL.spl (TL.tl ⟨#[c]⟩) 0 [] (TL.tl (sv s)) = splitC c [] s := split_c c s []
  rw [e] at h
  refine TL.map_tl_inj ?_
  rw [h, List.map_map]
  conv => lhs; rw [← List.map_id (splitC c [] s)]
  rfl
theorem joinS_eq (sep : List Nat) : ∀ l, joinS sep l = TL.joinL sep l
  | [] => rfl
  | [p] => rfl
  | p :: q :: r => by
    show p ++ (sep ++ joinS sep (q :: r)) = p ++ (sep ++ TL.joinL sep (q :: r))
    rw [joinS_eq sep (q :: r)]
theorem join_sv (s : List Nat) (ys : List (List Nat)) : Txt.join (sv s) (ys.map sv) = sv (joinS s ys) := by
  rw [TL.join_eq]
  refine TL.ext_tl ?_
  rw [TL.tl_join, List.map_map, joinS_eq]
  show TL.joinL s (ys.map fun y => (sv y).cps.toList) = TL.joinL s ys
  simp [sv]
theorem find_sv (s : List Nat) (c : Nat) (a : Nat) (h : a ≤ s.length) : Txt.find3 (sv s) ⟨#[c]⟩ (a : Int) = findC c s a := by
  have hf : fromIndex (sv s).length (a : Int) = a := by
    unfold fromIndex
    rw [if_neg (by omega)]
    omega
  have at1 : ∀ i, StrLaws.At (sv s) ⟨#[c]⟩ (sv s).length i ↔ s[i]? = some c := fun i => StrLaws.subAt_one (sv s) c i
  unfold Txt.find3 findC
  rw [hf, StrLaws.occ_eq]
  rcases StrLaws.occ_first (sv s) ⟨#[c]⟩ (sv s).length 1 (Nat.le_refl _) (List.range' a ((sv s).length + 1 - a)) a (fun i hi => (List.mem_range'_1.mp hi).1) with ⟨h0, hn⟩ | ⟨pre, b, post, e, h0, hb, hn⟩
  · rw [h0]
    have : (s.drop a).findIdx? (· == c) = none := by
      rw [List.findIdx?_eq_none_iff]
      intro x hx
      obtain ⟨i, hi, e⟩ := List.mem_iff_getElem.mp hx
      rw [List.getElem_drop] at e
      rw [List.length_drop] at hi
      have := hn (a + i) (List.mem_range'_1.mpr (by rw [sv_len]; omega))
      rw [at1] at this
      rw [beq_eq_false_iff_ne]
      intro q
      exact this (by rw [List.getElem?_eq_getElem (by omega), e, q])
    rw [this]
  · generalize (forIn (List.range' a ((sv s).length + 1 - a)) ((#[] : Array Nat), a) (StrLaws.occBody (sv s) ⟨#[c]⟩ (sv s).length 1)).run.fst = arr at h0
    have hb' := (at1 b).mp hb
    have hlen : pre.length + a = b := by
      have h1 : (List.range' a ((sv s).length + 1 - a))[pre.length]? = some b := by rw [e]; simp
      have h2 : pre.length < (sv s).length + 1 - a := by
        have := congrArg List.length e
        simp at this
        omega
      rw [List.getElem?_range' h2] at h1
      simp at h1
      omega
    have hbl : b < s.length := (List.getElem?_eq_some_iff.mp hb').1
    have : (s.drop a).findIdx? (· == c) = some (b - a) := by
      rw [List.findIdx?_eq_some_iff_getElem]
      refine ⟨by rw [List.length_drop]; omega, ?_, fun j hj => ?_⟩
      · rw [List.getElem_drop]
        have : s[a + (b - a)]? = some c := by rw [show a + (b - a) = b by omega]; exact hb'
        rw [(List.getElem?_eq_some_iff.mp this).2]
        simp
      · rw [List.getElem_drop]
        have hm : a + j ∈ pre := by
          have h2 : (List.range' a ((sv s).length + 1 - a))[j]? = pre[j]? := by rw [e, List.getElem?_append_left (by omega)]
          rw [List.getElem?_range' (by rw [sv_len]; omega)] at h2
          refine List.mem_of_getElem? (i := j) ?_
          rw [← h2]
          simp
        have := hn (a + j) hm
        rw [at1] at this
        intro q
        have q' : s[a + j] = c := by simpa using q
        exact this (by rw [List.getElem?_eq_getElem (by omega), q'])
    rw [this]
    have h1 : arr.toList[0]? = some b := by simpa using h0
    cases hL : arr.toList with
    | nil => (rw [hL] at h1; cases h1)
    | cons x t =>
      rw [hL] at h1
      have : x = b := by simpa using h1
      subst this
      show (x : Int) = ((a + (x - a) : Nat) : Int)
      omega
theorem strip_sv (s : List Nat) (c : Nat) : Txt.lstripChars (sv s) ⟨#[c]⟩ = sv (s.dropWhile (· == c)) := by
  have hg : ∀ x, (#[c] : Array Nat).contains x = (x == c) := fun x => by
    by_cases h : x = c <;> simp [h]
  have hlo : stripLo (fun x => (#[c] : Array Nat).contains x) true (sv s) = (s.takeWhile (· == c)).length := by
    unfold stripLo
    simp only [if_true]
    show (List.takeWhile _ s).length = _
    congr 2
    funext x
    exact hg x
  have hd : ∀ l : List Nat, l.drop (l.takeWhile (· == c)).length = l.dropWhile (· == c) := fun l => by
    induction l with
    | nil => rfl
    | cons x l ih =>
      rw [List.takeWhile_cons, List.dropWhile_cons]
      cases (x == c) with
      | true => simpa using ih
      | false => rfl
  refine TL.ext_tl ?_
  show TL.tl (Txt.stripBy (fun x => (#[c] : Array Nat).contains x) true false (sv s)) = s.dropWhile (· == c)
  unfold Txt.stripBy
  split
  · rename_i h
    unfold stripSame at h
    rw [hlo] at h
    simp only [Bool.and_eq_true, beq_iff_eq] at h
    have := hd s
    rw [h.1] at this
    exact this
  · unfold stripped
    rw [hlo, TL.tl_strSub]
    show List.take _ (s.drop _) = _
    rw [hd]
    unfold stripHi
    (simp only [Bool.false_eq_true, if_false])
    rw [sv_len, List.take_of_length_le]
    have := hd s
    rw [← this, List.length_drop]
    omega
def Me.ty : Me → String
  | .append => "list" | .extend => "list" | .pop => "list" | .popAt => "list" | _ => "str"
/-- the readings of methods -/
def rMe (K : PySem.W.Frag) : Me → V → List V → Hp → VK → Prop
  | .append => rAppend
  | .extend => rExtend
  | .pop => rPop
  | .popAt => rPopAt
  | .split => fun x xs H Q => ∃ a b, x = .str a ∧ xs = [.str b] ∧ (b.length == 0) = false ∧ a.length + 2 ≤ sizeLine ∧ rNewStrs (Txt.split a b) H Q
  | .join => fun x xs H Q => ∃ a p, ∃ ys : List Str, x = .str a ∧ xs = [.ref p] ∧ (SqL K H p (ys.map V.str) ∨ SqT K H p (ys.map V.str)) ∧ (ys.map (·.length)).sum + ys.length * a.length ≤ 16777216 ∧ Q (.str (Txt.join a ys)) H
  | .find => fun x xs H Q => ∃ (a b : Str) (i : Int), x = .str a ∧ xs = [.str b, .int i] ∧ Q (.int (Txt.find3 a b i)) H
  | .lstrip => fun x xs H Q => ∃ a b, x = .str a ∧ xs = [.str b] ∧ a.length ≤ sizeLine ∧ Q (.str (Txt.lstripChars a b)) H
  | .replace => fun _ _ _ _ => False
section
variable {T : Ks} {E : XK} {w : Wd} {S S' : Store} {x : D} {as : List D} {v : V} {us : List V} {d : D} {Q : VK}
/-- a live list, from an answer that looks at one -/
theorem live_at {β : Type} (k : w.ok T S) {x : D} {v : V} (rx : RV T w x v) {f : Nat → List D → Option β} {r : β}
    (h : ((live S x).bind fun p => f p.1 p.2) = some r) : ∃ n a xs vs, x = .obj n ∧ v = .ref a ∧ w.φ[n]? = some a ∧ S[n]? = some (.lst xs) ∧ w.H a = some (.lst vs) ∧ RVs T w xs vs ∧ f n xs = some r := by
  obtain ⟨p, hp, hf⟩ := Option.bind_eq_some_iff.mp h
  cases rx with
  | @obj a n hn =>
    unfold live at hp
    simp only at hp
    cases z : S[n]? with
    | none => rw [z] at hp; cases hp
    | some c =>
      rw [z] at hp
      cases hc : c with
      | lst xs =>
        rw [hc] at z hp
        cases hp
        cases k.cell n a _ hn z with
        | lst h1 r => exact ⟨n, a, _, _, rfl, rfl, hn, z, h1, r, hf⟩
      | ins c fs => rw [hc] at hp; cases hp
  | _ => cases hp
/-- what looks at a live list, put so -/
theorem live_eq {β : Type} {S : Store} {x : D} {r : β} {f : Nat → List D → Option β} {g : D → Option β} (h : g x = some r)
    (hn : ∀ n, g (.obj n) = match S[n]? with | some (.lst xs) => f n xs | _ => none) (ho : (∀ n, x ≠ .obj n) → g x = none) : ((live S x).bind fun p => f p.1 p.2) = some r := by
  by_cases e : ∃ n, x = .obj n
  · obtain ⟨n, rfl⟩ := e
    rw [hn] at h
    unfold live
    simp only
    split at h
    · rename_i e
      try rw [e]
      exact h
    · cases h
  · rw [ho (fun n q => e ⟨n, q⟩)] at h
    cases h
theorem put_lst (k : w.ok T S) {n : Nat} {a : Addr} {ys : List D} {us : List V} (hn : w.φ[n]? = some a) (r : RVs T w ys us) {d : D} {v : V} (rd : RV T w d v) (h : Post T (RV T) E w (.ok d (S.set n (.lst ys))) Q) : Q v (upd w.H a (.lst us)) := by
  obtain ⟨k1, x⟩ := k.put (o := .lst us) (c := .lst ys) hn (.lst upd_same r)
  exact h _ v x k1 (rd.mono x.sub x.pre)
theorem me_append (k : w.ok T S) {y : D} {u : V} (rx : RV T w x v) (ry : RV T w y u) (h : meD .append S x [y] = some (d, S')) (q : Post T (RV T) E w (.ok d S') Q) : tyV T.K "list" v w.H ∧ rAppend v [u] w.H Q := by
  obtain ⟨n, a, xs, vs, rfl, rfl, hn, hS, ha, r, e⟩ := live_at k rx (f := fun n xs => if xs.length < SZ then some (D.non, S.set n (.lst (xs ++ [y]))) else none) (live_eq (g := fun x => meD .append S x [y]) h (fun _ => rfl) fun q => by cases x <;> first | rfl | exact absurd rfl (q _))
  split at e
  · rename_i c
    cases e
    exact ⟨.inl ⟨rfl, _, sql_of ha⟩, a, vs, u, rfl, rfl, ha, by rw [← r.length, SZ_eq]; exact c, put_lst k hn (r.snoc ry) .non q⟩
  · cases e
theorem me_extend (k : w.ok T S) {y : D} {u : V} (rx : RV T w x v) (ry : RV T w y u) (h : meD .extend S x [y] = some (d, S')) (q : Post T (RV T) E w (.ok d S') Q) : tyV T.K "list" v w.H ∧ rExtend v [u] w.H Q := by
  cases hy : y.items S with
  | none =>
    exfalso
    unfold meD at h
    simp only [hy] at h
    split at h
    · rename_i n
      cases z : S[n]? with
      | none => rw [z] at h; cases h
      | some c => rw [z] at h; cases c <;> cases h
    · cases h
  | some ys =>
    obtain ⟨n, a, xs, vs, rfl, rfl, hn, hS, ha, r, e⟩ := live_at k rx (f := fun n xs => if xs.length + ys.length ≤ SZ then some (D.non, S.set n (.lst (xs ++ ys))) else none) (live_eq (S := S) (g := fun x => meD .extend S x [y]) (f := fun n xs => if xs.length + ys.length ≤ SZ then some (D.non, S.set n (.lst (xs ++ ys))) else none) h (fun n => by unfold meD; simp only [hy]; cases S[n]? with | none => rfl | some c => cases c <;> rfl) fun q => by cases x <;> first | rfl | exact absurd rfl (q _))
    obtain ⟨b, zs, rfl, hb, r2⟩ := items_at k ry hy
    split at e
    · rename_i c
      cases e
      exact ⟨.inl ⟨rfl, _, sql_of ha⟩, a, b, vs, zs, rfl, rfl, ha, hb, by rw [← r.length, ← r2.length, SZ_eq]; exact c, put_lst k hn (r.append r2) .non q⟩
    · cases e
theorem me_pop (k : w.ok T S) (rx : RV T w x v) (h : meD .pop S x [] = some (d, S')) (q : Post T (RV T) E w (.ok d S') Q) : tyV T.K "list" v w.H ∧ rPop v [] w.H Q := by
  obtain ⟨n, a, xs, vs, rfl, rfl, hn, hS, ha, r, e⟩ := live_at k rx (f := fun n xs => (match xs[xs.length - 1]? with | some y => some (y, S.set n (.lst xs.dropLast)) | none => none)) (live_eq (g := fun x => meD .pop S x []) h (fun _ => rfl) fun q => by cases x <;> first | rfl | exact absurd rfl (q _))
  cases z : xs[xs.length - 1]? with
  | none => rw [z] at e; cases e
  | some y =>
    rw [z] at e
    cases e
    obtain ⟨u, hu, ru⟩ := r.get z
    exact ⟨.inl ⟨rfl, _, sql_of ha⟩, a, vs, u, rfl, rfl, ha, by rw [← r.length]; exact hu, put_lst k hn r.dropLast ru q⟩
theorem me_popAt (k : w.ok T S) {i : Int} (rx : RV T w x v) (h : meD .popAt S x [.int i] = some (d, S')) (q : Post T (RV T) E w (.ok d S') Q) : tyV T.K "list" v w.H ∧ rPopAt v [.int i] w.H Q := by
  obtain ⟨n, a, xs, vs, rfl, rfl, hn, hS, ha, r, e⟩ := live_at k rx (f := fun n xs => if -(2 ^ 62) ≤ i ∧ i < 2 ^ 62 then (match Pv.ixN xs.length i with | some k => (match xs[k]? with | some y => some (y, S.set n (.lst (xs.eraseIdx k))) | none => none) | none => none) else none) (live_eq (g := fun x => meD .popAt S x [.int i]) h (fun _ => rfl) fun q => by cases x <;> first | rfl | exact absurd rfl (q _))
  split at e
  · rename_i c
    cases z : Pv.ixN xs.length i with
    | none => rw [z] at e; cases e
    | some j =>
      rw [z] at e
      simp only at e
      cases z2 : xs[j]? with
      | none => rw [z2] at e; cases e
      | some y =>
        rw [z2] at e
        cases e
        obtain ⟨u, hu, ru⟩ := r.get z2
        refine ⟨.inl ⟨rfl, _, sql_of ha⟩, a, vs, i, j, u, rfl, rfl, ha, by omega, by omega, ?_, hu, put_lst k hn (r.eraseIdx j) ru q⟩
        rw [← r.length]
        exact (ixN_seq (by rw [ixN_eq]; exact z)).1
  · cases e
theorem me_split (k : w.ok T S) (rx : RV T w x v) (ra : RVs T w as us) (h : meD .split S x as = some (d, S')) (q : Post T (RV T) E w (.ok d S') Q) : tyV T.K "str" v w.H ∧ rMe T.K .split v us w.H Q := by
  unfold meD at h
  split at h <;> try (exfalso; contradiction)
  rename_i c _
  split at h
  · rename_i s
    split at h
    · rename_i hc
      cases h
      cases rx
      cases ra with
      | cons r1 r2 =>
      cases r1; cases r2
      refine ⟨rfl, _, _, rfl, rfl, rfl, by rw [sv_len, SZ_eq]; exact hc.1, fun p hp => ?_⟩
      rw [show sv [c] = ⟨#[c]⟩ from rfl, split_sv s c hc.2, List.map_map]
      exact post_lst k (ds := (splitC c [] s).map D.str) Reps.strs q p hp
    · cases h
  · cases h
theorem me_join (k : w.ok T S) {y : D} {u : V} (rx : RV T w x v) (ry : RV T w y u) (h : meD .join S x [y] = some (d, S')) (q : Post T (RV T) E w (.ok d S') Q) : tyV T.K "str" v w.H ∧ rMe T.K .join v [u] w.H Q := by
  unfold meD at h
  simp only at h
  split at h
  · rename_i s
    split at h
    · rename_i ys e
      split at h
      · rename_i hc
        cases h
        cases rx
        obtain ⟨zs, e1, e2⟩ := Option.bind_eq_some_iff.mp e
        have fin : ∀ {p : Addr} {vs : List V}, u = .ref p → (SqL T.K w.H p vs ∨ SqT T.K w.H p vs) → RVs T w zs vs → tyV T.K "str" (V.str (sv s)) w.H ∧ rMe T.K .join (.str (sv s)) [u] w.H Q := fun {p vs} eu hs rs => by
          have ev := strs_rep rs e2
          subst ev
          refine ⟨rfl, sv s, p, ys.map sv, rfl, by rw [eu], hs, ?_, ?_⟩
          · rw [List.map_map, List.length_map, sv_len]
            have : (ys.map ((fun x => Str.length x) ∘ sv)) = ys.map (·.length) := by
              apply List.map_congr_left
              intro a _
              exact sv_len a
            rw [this]
            exact hc
          · rw [join_sv]
            exact post_val k (.str _) q
        cases ry with
        | tup g r =>
          have e1' : some _ = some zs := e1
          cases e1'
          exact fin rfl (.inr (sqt_up k g)) r
        | lst g r =>
          have e1' : some _ = some zs := e1
          cases e1'
          exact fin rfl (.inl (sql_of (k.sub _ _ g))) r
        | obj hn =>
          obtain ⟨a, vs, e3, ha, rs⟩ := items_at k (.obj hn) e1
          exact fin e3 (.inl (sql_of ha)) rs
        | _ => cases e1
      · cases h
    · cases h
  · cases h
theorem me_find (k : w.ok T S) (rx : RV T w x v) (ra : RVs T w as us) (h : meD .find S x as = some (d, S')) (q : Post T (RV T) E w (.ok d S') Q) : tyV T.K "str" v w.H ∧ rMe T.K .find v us w.H Q := by
  unfold meD at h
  split at h <;> try (exfalso; contradiction)
  rename_i c a _
  split at h
  · rename_i s
    split at h
    · rename_i hc
      obtain ⟨h1, h2, h3⟩ := hc
      cases h
      cases rx
      cases ra with
      | cons r1 r2 =>
      cases r2 with
      | cons r2 r3 =>
      cases r1; cases r2; cases r3
      refine ⟨rfl, _, _, a, rfl, rfl, ?_⟩
      obtain ⟨n, rfl⟩ := Int.eq_ofNat_of_zero_le h2
      rw [show sv [c] = ⟨#[c]⟩ from rfl, find_sv s c n (by omega)]
      exact post_val k (.int _) q
    · cases h
  · cases h
theorem me_lstrip (k : w.ok T S) (rx : RV T w x v) (ra : RVs T w as us) (h : meD .lstrip S x as = some (d, S')) (q : Post T (RV T) E w (.ok d S') Q) : tyV T.K "str" v w.H ∧ rMe T.K .lstrip v us w.H Q := by
  unfold meD at h
  split at h <;> try (exfalso; contradiction)
  rename_i c _
  split at h
  · rename_i s
    split at h
    · rename_i hc
      cases h
      cases rx
      cases ra with
      | cons r1 r2 =>
      cases r1; cases r2
      refine ⟨rfl, _, _, rfl, rfl, by rw [sv_len, SZ_eq]; exact hc, ?_⟩
      rw [show sv [c] = ⟨#[c]⟩ from rfl, strip_sv]
      exact post_val k (.str _) q
    · cases h
  · cases h
end
end Pv
namespace Pv
open PySem L2
/-- what is fixed through a law: the program, the written part, the module's names, the evaluator's program, where its defs stand -/
structure Gm where
  P : Program
  T : Ks
  mg : Str → Option Value
  base : Heap
  pg : Pg
  fa : Nat → Addr
/-- a def's (a block's) context: the calls that are left, what is wanted of an exception, its names -/
structure Ct where
  M : Gm
  k : Nat
  E : XK
  N : List Str
  sc : Scope
  top : Bool
  lm : Option (Addr × Addr × Str)
abbrev Ct.cf (Γ : Ct) : Cf := Γ.M.pg.cf (callF Γ.M.pg Γ.k)
abbrev Ct.T (Γ : Ct) : Ks := Γ.M.T
/-- what changes from entry to entry -/
structure Dy where
  A : Around
  s_0 : Shared
  H_0 : Hp
  env : PySem.Env
  outer : List PySem.Env
  stack : List PySem.Env
  ex : List Addr
  fn : Str → Bool
  pn : List (Addr × Obj)
  xe : Value → Shared → Prop
abbrev Ct.cx (Γ : Ct) (Y : Dy) : Cx where
  prog := Γ.M.P
  w := Γ.M.T.W
  K := Γ.M.T.K
  mg := Γ.M.mg
  base := Γ.M.base
  A := Y.A
  N := Γ.N
  s_0 := Y.s_0
  H_0 := Y.H_0
  env := Y.env
  outer := Y.outer
  stack := Y.stack
  ex := Y.ex
  fn := Y.fn
  calm := true
  pn := Y.pn
  xe := Y.xe
structure Ct.Ok (Γ : Ct) (Y : Dy) : Prop where
  sc : Y.env.scope = Γ.sc
  nd : Γ.N.Nodup
  room : Room (4 * Γ.k + 5) Y.A
  fn : Γ.top = true → Y.fn = fun _ => true
  lam : ∀ c P q, Γ.lm = some (c, P, q) → Room (4 * Γ.k + 7) Y.A ∧ Y.env.code = .ref c ∧ LamX.TabB Γ.M.base Γ.M.mg c P ∧ Y.env.qual = q
  takes : Takes (Γ.cx Y) (fun cls d _ H => Γ.E cls d H)
/-- a test's answer as a Bool -/
def toB (r : Ro D) : Ro Bool := r.bind fun d S => match d with
  | .bl b => .ok b S
  | _ => .stuck
abbrev FD := Pv.Env → Store → Ro D
abbrev FB := Pv.Env → Store → Ro Bool
abbrev FL := Pv.Env → Store → Ro (List D)
def XE (Γ : Ct) (e : Expr) (f : FD) : Prop := ∃ t, (∀ Y, Γ.Ok Y → PE (Γ.cx Y) e t) ∧ Snd Γ.T Γ.E (RV Γ.T) t f
def XT (Γ : Ct) (e : Expr) (f : FB) : Prop := ∃ t, (∀ Y, Γ.Ok Y → PT (Γ.cx Y) e t) ∧ Snd Γ.T Γ.E RBo t f
def XW (Γ : Ct) (e : Expr) (f : FB) : Prop := ∃ t, (∀ Y, Γ.Ok Y → PW (Γ.cx Y) e t) ∧ Snd Γ.T Γ.E RBo t f
def XA (Γ : Ct) (es : List Expr) (f : FL) : Prop := ∃ t, (∀ Y, Γ.Ok Y → PA (Γ.cx Y) es t) ∧ Snd Γ.T Γ.E (RVs Γ.T) t f
theorem XE.to {Γ : Ct} {e : Expr} {f g : FD} (h : XE Γ e f) (q : ∀ v S, g v S = f v S) : XE Γ e g := by
  have : g = f := funext fun v => funext fun S => q v S
  rw [this]
  exact h
theorem XT.to {Γ : Ct} {e : Expr} {f g : FB} (h : XT Γ e f) (q : ∀ v S, g v S = f v S) : XT Γ e g := by
  have : g = f := funext fun v => funext fun S => q v S
  rw [this]
  exact h
theorem XW.to {Γ : Ct} {e : Expr} {f g : FB} (h : XW Γ e f) (q : ∀ v S, g v S = f v S) : XW Γ e g := by
  have : g = f := funext fun v => funext fun S => q v S
  rw [this]
  exact h
theorem XA.to {Γ : Ct} {e : List Expr} {f g : FL} (h : XA Γ e f) (q : ∀ v S, g v S = f v S) : XA Γ e g := by
  have : g = f := funext fun v => funext fun S => q v S
  rw [this]
  exact h
section
variable {α β γ δ : Type} {T : Ks} {E : XK} {R : Wd → α → β → Prop} {R' : Wd → γ → δ → Prop}
theorem Snd.seq {ta : L2.St → Hp → (β → Hp → Prop) → Prop} {tb : β → L2.St → Hp → (δ → Hp → Prop) → Prop} {fa : Pv.Env → Store → Ro α} {fb : α → Pv.Env → Store → Ro γ} (ha : Snd T E R ta fa)
    (hb : ∀ (w : Wd) (S : Store) (e : Pv.Env) (σ : L2.St) (x : α) (v : β) (Q : δ → Hp → Prop), w.ok T S → EnvR T w e σ → R w x v → Post T R' E w (fb x e S) Q → tb v σ w.H Q) :
    Snd T E R' (fun σ H Q => ta σ H fun v H1 => tb v σ H1 Q) (fun e S => (fa e S).bind fun x S => fb x e S) :=
  fun w S e σ Q k he h => ha w S e σ _ k he (Post.bind k h fun x S1 w1 v _ hle k1 r h1 => hb w1 S1 e σ x v Q k1 (he.le hle) r h1)
end
section
variable {γ δ : Type} {T : Ks} {E : XK} {R' : Wd → γ → δ → Prop}
/-- two values, then something by their values -/
theorem Snd.two {ta tb : TE} {fa fb : FD} {g : D → D → Store → Ro γ} {r : V → V → Hp → (δ → Hp → Prop) → Prop} (ha : Snd T E (RV T) ta fa) (hb : Snd T E (RV T) tb fb)
    (hr : ∀ (w : Wd) (S : Store) (x y : D) (v u : V) (Q : δ → Hp → Prop), w.ok T S → RV T w x v → RV T w y u → Post T R' E w (g x y S) Q → r v u w.H Q) :
    Snd T E R' (fun σ H Q => ta σ H fun v H1 => tb σ H1 fun u H2 => r v u H2 Q) (fun e S => (fa e S).bind fun x S => (fb e S).bind fun y S => g x y S) :=
  Snd.seq ha fun w S e σ x v Q k he rx h => hb w S e σ _ k he (Post.bind k h fun y S1 w1 u _ hle k1 ry h1 => hr w1 S1 x y v u Q k1 (Rep.le hle rx) ry h1)
theorem Snd.one {ta : TE} {fa : FD} {g : D → Store → Ro γ} {r : V → Hp → (δ → Hp → Prop) → Prop} (ha : Snd T E (RV T) ta fa)
    (hr : ∀ (w : Wd) (S : Store) (x : D) (v : V) (Q : δ → Hp → Prop), w.ok T S → RV T w x v → Post T R' E w (g x S) Q → r v w.H Q) :
    Snd T E R' (fun σ H Q => ta σ H fun v H1 => r v H1 Q) (fun e S => (fa e S).bind fun x S => g x S) :=
  Snd.seq ha fun w S _ _ x v Q k _ rx h => hr w S x v Q k rx h
end
theorem Post.mapQ {α β : Type} {T : Ks} {R : Wd → α → β → Prop} {E : XK} {w : Wd} {r : Ro α} {Q Q' : β → Hp → Prop} (hq : ∀ b H, Q b H → Q' b H) (h : Post T R E w r Q) : Post T R E w r Q' := by
  cases r with
  | ok a S => exact fun w' b x k q => hq _ _ (h w' b x k q)
  | err c as S => exact h
  | stuck => exact h
theorem post_bl {T : Ks} {E : XK} {w : Wd} {S : Store} {o : Option Bool} {Q : VK} (k : w.ok T S) (h : Post T (RV T) E w (Ro.opt (o.map D.bl) S) Q) : ∃ b, o = some b ∧ Q (.bl b) w.H := by
  cases o with
  | none => exact h.elim
  | some b => exact ⟨b, rfl, post_val k (.bl b) h⟩
theorem post_bo {T : Ks} {E : XK} {w : Wd} {S : Store} {o : Option Bool} {Q : Bool → Hp → Prop} (k : w.ok T S) (h : Post T RBo E w (Ro.opt o S) Q) : ∃ b, o = some b ∧ Q b w.H := by
  cases o with
  | none => exact h.elim
  | some b => exact ⟨b, rfl, h.ok_ k rfl⟩
section
variable {Γ : Ct} {a b c : Expr} {fa fb fc : FD} {pos : Pos}
theorem xe_var {i : Nat} {x : Str} (hN : Γ.N[i]? = some x) (hv : Vis Γ.sc x) (hd : (x == ("__debug__" : Str)) = false) (hcd : (x == ("__classdict__" : Str)) = false) : XE Γ (.Name x pos) fun e S => Ro.opt (e.get i) S :=
  ⟨tVar i, fun Y ok => pe_var hN (by show Vis Y.env.scope x; rw [ok.sc]; exact hv) hd hcd, fun w S e σ Q k he h => by
    obtain ⟨d, hd, h⟩ := post_opt h
    obtain ⟨v, hv, rv⟩ := he.get hd
    exact ⟨v, hv, post_val k rv h⟩⟩
theorem xe_const {v : V} {d : D} (hp : ∀ Y, Γ.Ok Y → PE (Γ.cx Y) a (tC v)) (hr : ∀ w S, w.ok Γ.T S → RV Γ.T w d v) : XE Γ a fun _ S => .ok d S :=
  ⟨tC v, hp, fun w S _ _ _ k _ h => post_val k (hr w S k) h⟩
theorem xe_int {i : Int} {j : Nat} : XE Γ (.Constant (.int i) j pos) fun _ S => .ok (.int i) S := xe_const (fun _ _ => pe_int) fun _ _ _ => .int i
theorem xe_bl {i : Bool} {j : Nat} : XE Γ (.Constant (.bool i) j pos) fun _ S => .ok (.bl i) S := xe_const (fun _ _ => pe_bl) fun _ _ _ => .bl i
theorem xe_non {j : Nat} : XE Γ (.Constant .none j pos) fun _ S => .ok .non S := xe_const (fun _ _ => pe_non) fun _ _ _ => .non
theorem xe_str {x : Str} {j : Nat} {s : List Nat} (h : x.cps.toList = s) : XE Γ (.Constant (.str x) j pos) fun _ S => .ok (.str s) S := by
  subst h
  exact xe_const (fun _ _ => pe_str) fun _ _ _ => by
    have := Rep.str (K := Γ.T.K) (W := Γ.T.W) (G := ‹Wd›.G) (φ := ‹Wd›.φ) x.cps.toList
    rw [sv_of] at this
    exact this
theorem glY {Y : Dy} (ok : Γ.Ok Y) {x : Str} (h : Γ.sc.names.lookup x = some .globalImplicit) : Gl (Γ.cx Y) x := by
  show Y.env.scope.names.lookup x = _
  rw [ok.sc]
  exact h
/-- a module's constant -/
theorem xe_glb {i : Nat} {x : Str} {d : D} {v : V} {u : Value} (hg : Γ.sc.names.lookup x = some .globalImplicit) (hm : Γ.M.mg x = some u) (r : RelV v u) (hd : (x == ("__debug__" : Str)) = false) (hi : Γ.cf.gl[i]? = some d) (hr : ∀ w S, w.ok Γ.T S → RV Γ.T w d v) :
    XE Γ (.Name x pos) fun _ S => Ro.opt Γ.cf.gl[i]? S :=
  (xe_const (fun Y ok => pe_glob (glY ok hg) hm r hd) hr).to fun _ _ => by rw [hi]; rfl
def oBin : Op → Operator
  | .add => .Add | .sub => .Sub | .mul => .Mult | .fdiv => .FloorDiv | .mod => .Mod | .pow => .Pow
def rBin (K : PySem.W.Frag) : Op → R2
  | .add => rAddD K
  | .sub => rI0 (fun i j => .int (i - j))
  | .mul => rMulD
  | .fdiv => rI CDivN (fun i j => .int (i.fdiv j))
  | .mod => rI (fun _ j => j ≠ 0) (fun i j => .int (i.fmod j))
  | .pow => rI CPow (fun i j => .int (i ^ j.toNat))
theorem op_bin {X : Cx} : ∀ o, OpR X (binaryOp (oBin o)) (rBin X.K o)
  | .add => op_addD
  | .sub => op_sub
  | .mul => op_mulD
  | .fdiv => op_fdivN
  | .mod => op_modN
  | .pow => op_pow
theorem bin_leaf {T : Ks} {E : XK} {w : Wd} {S : Store} {x y : D} {v u : V} {Q : VK} (o : Op) (k : w.ok T S) (rx : RV T w x v) (ry : RV T w y u) (h : Post T (RV T) E w (Ro.opt (opD o S x y) S) Q) : rBin T.K o v u w.H Q := by
  cases o with
  | add => exact add_leaf k rx ry h
  | sub => exact sub_leaf k rx ry h
  | mul => exact mul_leaf k rx ry h
  | fdiv => exact fdiv_leaf k rx ry h
  | mod => exact mod_leaf k rx ry h
  | pow => exact pow_leaf k rx ry h
theorem xe_bin (o : Op) (ha : XE Γ a fa) (hb : XE Γ b fb) : XE Γ (.BinOp a (oBin o) b pos) fun e S => (fa e S).bind fun x S => (fb e S).bind fun y S => Ro.opt (opD o S x y) S := by
  obtain ⟨ta, pa, sa⟩ := ha
  obtain ⟨tb, pb, sb⟩ := hb
  exact ⟨tOp (rBin Γ.T.K o) ta tb, fun Y ok => pe_op (op_bin o) (pa Y ok) (pb Y ok), Snd.two sa sb fun w S x y v u Q k rx ry h => bin_leaf o k rx ry h⟩
def negD (x : D) (S : Store) : Ro D := match x with
  | .int i => .ok (.int (-i)) S
  | _ => .stuck
theorem xe_neg (ha : XE Γ a fa) : XE Γ (.UnaryOp .USub a pos) fun e S => (fa e S).bind fun x S => negD x S := by
  obtain ⟨ta, pa, sa⟩ := ha
  refine ⟨tUn (rU fun i => .int (-i)) ta, fun Y ok => pe_un un_neg (pa Y ok), Snd.one (r := fun x H Q => rU (fun i => .int (-i)) x H Q) sa fun w S x v Q k rx h => ?_⟩
  cases rx <;> first | (exact h.elim) | skip
  exact ⟨_, rfl, post_val k (.int _) h⟩
def oCm : Cm → CmpOp
  | .eq => .Eq | .ne => .NotEq | .lt => .Lt | .le => .LtE | .gt => .Gt | .ge => .GtE | .in_ => .In | .nin => .NotIn | .is_ => .Is | .isn => .IsNot
def rCm (K : PySem.W.Frag) (W : World) : Cm → R2
  | .eq => rEqA K
  | .ne => rNeA K
  | .lt => rI0 fun i j => .bl (decide (i < j))
  | .le => rI0 fun i j => .bl (decide (i ≤ j))
  | .gt => rI0 fun i j => .bl (decide (j < i))
  | .ge => rI0 fun i j => .bl (decide (j ≤ i))
  | .in_ => rInA K W false
  | .nin => rInA K W true
  | .is_ => fun x y H Q => y = .non ∧ Q (.bl (decide (x = .non))) H
  | .isn => fun x y H Q => y = .non ∧ Q (.bl (!decide (x = .non))) H
theorem op_cm {X : Cx} (hu : X.A.units + 64 < cLine) : ∀ o, OpR X (compareOp (oCm o)) (rCm X.K X.w o)
  | .eq => OpR.or op_eq (op_eqD hu)
  | .ne => OpR.or op_ne (op_neD hu)
  | .lt => op_lt
  | .le => op_le
  | .gt => op_gt
  | .ge => op_ge
  | .in_ => op_inA
  | .nin => op_ninA
  | .is_ => op_isN
  | .isn => op_notN
def isN : D → Bool
  | .non => true
  | _ => false
def isM : D → Bool
  | .non => false
  | _ => true
theorem none_rep {T : Ks} {w : Wd} {x : D} {v : V} (rx : RV T w x v) : decide (v = .non) = isN x := by
  cases rx <;> first | rfl | exact decide_eq_false (fun h => by cases h)
theorem none_rep' {T : Ks} {w : Wd} {x : D} {v : V} (rx : RV T w x v) : (!decide (v = .non)) = isM x := by
  cases rx <;> first | rfl | (rw [decide_eq_false (fun h => by cases h)]; rfl)
def ordD (p : Int → Int → Bool) (x y : D) : Option Bool := match x, y with
  | .int i, .int j => some (p i j)
  | _, _ => none
theorem ordD_inv {p : Int → Int → Bool} {x y : D} {b : Bool} (h : ordD p x y = some b) : ∃ i j, x = .int i ∧ y = .int j ∧ p i j = b := by
  unfold ordD at h
  split at h
  · exact ⟨_, _, rfl, rfl, Option.some.inj h⟩
  · cases h
theorem isD_inv {y : D} {f : Bool} {b : Bool} (h : (match y with | .non => some f | _ => none) = some b) : y = .non ∧ f = b := by
  split at h
  · exact ⟨rfl, Option.some.inj h⟩
  · cases h
theorem cm_leaf {T : Ks} {w : Wd} {S : Store} {x y : D} {v u : V} {Q : VK} (o : Cm) (k : w.ok T S) (rx : RV T w x v) (ry : RV T w y u) {b : Bool} (h : cmD o S x y = some b) (q : Q (.bl b) w.H) : rCm T.K T.W o v u w.H Q := by
  have ord : ∀ {p : Int → Int → Bool}, ordD p x y = some b → rI0 (fun i j => .bl (p i j)) v u w.H Q := fun {p} h => by
    obtain ⟨i, j, rfl, rfl, e⟩ := ordD_inv h
    cases rx; cases ry
    exact ⟨_, _, rfl, rfl, by show Q (.bl (p i j)) w.H; rw [e]; exact q⟩
  cases o with
  | eq => exact eq_leaf k rx ry h Q q
  | ne => exact ne_leaf k rx ry h Q q
  | lt => exact ord h
  | le => exact ord h
  | gt => exact ord h
  | ge => exact ord h
  | in_ => exact in_leaf k rx ry (neg := false) h Q q
  | nin =>
    obtain ⟨c, h1, h2⟩ := Option.map_eq_some_iff.mp h
    subst h2
    exact in_leaf k rx ry (neg := true) h1 Q q
  | is_ =>
    obtain ⟨rfl, e⟩ := isD_inv h
    cases ry
    exact ⟨rfl, by rw [none_rep rx, show isN x = b from e]; exact q⟩
  | isn =>
    obtain ⟨rfl, e⟩ := isD_inv h
    cases ry
    exact ⟨rfl, by rw [none_rep' rx, show isM x = b from e]; exact q⟩
theorem unitsOk {Y : Dy} (ok : Γ.Ok Y) : (Γ.cx Y).A.units + 64 < cLine := Room.units ok.room
theorem xe_cmp (o : Cm) (ha : XE Γ a fa) (hb : XE Γ b fb) (hm : behindInMarks (oCm o) b = false) : XE Γ (.Compare a [oCm o] [b] pos) fun e S => (fa e S).bind fun x S => (fb e S).bind fun y S => Ro.opt ((cmD o S x y).map .bl) S := by
  obtain ⟨ta, pa, sa⟩ := ha
  obtain ⟨tb, pb, sb⟩ := hb
  refine ⟨tOp (rCm Γ.T.K Γ.T.W o) ta tb, fun Y ok => pe_cmpR (op_cm (unitsOk ok) o) (pa Y ok) (pb Y ok) hm, Snd.two sa sb fun w S x y v u Q k rx ry h => ?_⟩
  obtain ⟨c, h1, q⟩ := post_bl k h
  exact cm_leaf o k rx ry h1 q
theorem xt_cmp (o : Cm) (ha : XE Γ a fa) (hb : XE Γ b fb) (hm : behindInMarks (oCm o) b = false) : XT Γ (.Compare a [oCm o] [b] pos) fun e S => (fa e S).bind fun x S => (fb e S).bind fun y S => Ro.opt (cmD o S x y) S := by
  obtain ⟨ta, pa, sa⟩ := ha
  obtain ⟨tb, pb, sb⟩ := hb
  refine ⟨tTest (tOp (rCm Γ.T.K Γ.T.W o) ta tb), fun Y ok => pt_cmpR (op_cm (unitsOk ok) o) (pa Y ok) (pb Y ok) hm, ?_⟩
  refine Snd.two (r := fun x y H Q => rCm Γ.T.K Γ.T.W o x y H fun x H' => ∃ k, x = .bl k ∧ Q k H') sa sb fun w S x y v u Q k rx ry h => ?_
  obtain ⟨c, h1, q⟩ := post_bo k h
  exact cm_leaf o k rx ry h1 ⟨c, rfl, q⟩
/-- a op b op' c -/
def chnD (o o' : Cm) (fc : FD) (x y : D) (e : Pv.Env) (S : Store) : Ro Bool := (Ro.opt (cmD o S x y) S).bind fun k S => if k then (fc e S).bind fun z S => Ro.opt (cmD o' S y z) S else .ok false S
theorem chn_snd {T : Ks} {E : XK} {ta tb tc : TE} {fa fb fc : FD} {o o' : Cm} (sa : Snd T E (RV T) ta fa) (sb : Snd T E (RV T) tb fb) (sc : Snd T E (RV T) tc fc) {w : Wd} {S : Store} {e : Pv.Env} {σ : L2.St} {Q : VK} (k : w.ok T S) (he : EnvR T w e σ)
    (h : Post T RBo E w ((fa e S).bind fun x S => (fb e S).bind fun y S => chnD o o' fc x y e S) (fun b H => Q (.bl b) H)) : tChain (rCm T.K T.W o) (rCm T.K T.W o') ta tb tc σ w.H Q := by
  refine sa w S e σ _ k he (Post.bind k h fun x S1 w1 v _ hle k1 rx h1 => ?_)
  refine sb w1 S1 e σ _ k1 (he.le hle) (Post.bind k1 h1 fun y S2 w2 u _ hle2 k2 ry h2 => ?_)
  unfold chnD at h2
  cases z : cmD o S2 x y with
  | none => rw [z] at h2; exact h2.elim
  | some c =>
    rw [z] at h2
    refine cm_leaf o k2 (Rep.le hle2 rx) ry z ⟨c, rfl, ?_⟩
    cases c with
    | false => exact h2.ok_ k2 rfl
    | true =>
      rw [if_pos rfl]
      refine sc w2 S2 e σ _ k2 ((he.le hle).le hle2) (Post.bind k2 h2 fun t S3 w3 s _ hle3 k3 rt h3 => ?_)
      obtain ⟨c, h4, q⟩ := post_bo k3 h3
      exact cm_leaf o' k3 (Rep.le hle3 ry) rt h4 q
theorem xe_chn (o o' : Cm) (ha : XE Γ a fa) (hb : XE Γ b fb) (hc : XE Γ c fc) (hm : lastMarks [oCm o, oCm o'] [b, c] = false) : XE Γ (.Compare a [oCm o, oCm o'] [b, c] pos) fun e S => ((fa e S).bind fun x S => (fb e S).bind fun y S => chnD o o' fc x y e S).bind fun k S => .ok (.bl k) S := by
  obtain ⟨ta, pa, sa⟩ := ha
  obtain ⟨tb, pb, sb⟩ := hb
  obtain ⟨tc, pc, sc⟩ := hc
  exact ⟨tChain (rCm Γ.T.K Γ.T.W o) (rCm Γ.T.K Γ.T.W o') ta tb tc, fun Y ok => pe_chain (op_cm (unitsOk ok) o) (op_cm (unitsOk ok) o') (pa Y ok) (pb Y ok) (pc Y ok) hm, fun w S e σ Q k he h =>
    chn_snd sa sb sc k he (Post.bind k h fun x S1 w1 b _ hle k1 rx h1 => by cases rx; exact post_val k1 (.bl _) h1)⟩
theorem xt_chn (o o' : Cm) (ha : XE Γ a fa) (hb : XE Γ b fb) (hc : XE Γ c fc) (hm : lastMarks [oCm o, oCm o'] [b, c] = false) : XT Γ (.Compare a [oCm o, oCm o'] [b, c] pos) fun e S => (fa e S).bind fun x S => (fb e S).bind fun y S => chnD o o' fc x y e S := by
  obtain ⟨ta, pa, sa⟩ := ha
  obtain ⟨tb, pb, sb⟩ := hb
  obtain ⟨tc, pc, sc⟩ := hc
  refine ⟨tTest (tChain (rCm Γ.T.K Γ.T.W o) (rCm Γ.T.K Γ.T.W o') ta tb tc), fun Y ok => pt_chain (op_cm (unitsOk ok) o) (op_cm (unitsOk ok) o') (pa Y ok) (pb Y ok) (pc Y ok) hm, fun w S e σ Q k he h => ?_⟩
  refine chn_snd (Q := fun x H' => ∃ k, x = .bl k ∧ Q k H') sa sb sc k he ?_
  exact Post.mapQ (fun b H q => ⟨b, rfl, q⟩) h
def truD (S : Store) (x : D) : Ro Bool := Ro.opt (x.truth S) S
theorem xt_truth (ha : XE Γ a fa) (he : ∀ env whole, isTrue a env whole = (do let v ← whole; standAt a.pos; holding [v] (truthy v))) : XT Γ a fun e S => (fa e S).bind fun x S => truD S x := by
  obtain ⟨ta, pa, sa⟩ := ha
  refine ⟨fun σ H Q => ta σ H fun x H' => ∃ k, TruV Γ.T.K x H' k ∧ Q k H', fun Y ok => pt_truth (pa Y ok) (he _), ?_⟩
  refine Snd.one (r := fun x H' Q => ∃ k, TruV Γ.T.K x H' k ∧ Q k H') sa fun w S x v Q k rx h => ?_
  obtain ⟨b, h1, q⟩ := post_bo k h
  exact ⟨b, tru_leaf k rx h1, q⟩
variable {gA gB : FB} {rest : List Expr}
theorem xw_and1 (ha : XT Γ a gA) : XW Γ (.BoolOp .And [a] pos) gA := by
  obtain ⟨ta, pa, sa⟩ := ha
  exact ⟨_, fun Y ok => pw_and1 (pa Y ok), sa⟩
theorem xw_or1 (ha : XT Γ a gA) : XW Γ (.BoolOp .Or [a] pos) gA := by
  obtain ⟨ta, pa, sa⟩ := ha
  exact ⟨_, fun Y ok => pw_or1 (pa Y ok), sa⟩
def andB (g : FB) (x : Bool) (e : Pv.Env) (S : Store) : Ro Bool := if x then g e S else .ok false S
def orB (g : FB) (x : Bool) (e : Pv.Env) (S : Store) : Ro Bool := if x then .ok true S else g e S
theorem xw_and (ha : XT Γ a gA) (hb : XW Γ (.BoolOp .And (b :: rest) pos) gB) : XW Γ (.BoolOp .And (a :: b :: rest) pos) fun e S => (gA e S).bind fun x S => andB gB x e S := by
  obtain ⟨ta, pa, sa⟩ := ha
  obtain ⟨tb, pb, sb⟩ := hb
  refine ⟨_, fun Y ok => pw_and (pa Y ok) (pb Y ok), Snd.seq (tb := fun c σ H1 Q => if c = true then tb σ H1 Q else Q false H1) sa fun w S e σ x v Q k he rx h => ?_⟩
  cases rx
  unfold andB at h
  cases x with
  | true => exact sb w S e σ Q k he h
  | false => exact h.ok_ k rfl
theorem xw_or (ha : XT Γ a gA) (hb : XW Γ (.BoolOp .Or (b :: rest) pos) gB) : XW Γ (.BoolOp .Or (a :: b :: rest) pos) fun e S => (gA e S).bind fun x S => orB gB x e S := by
  obtain ⟨ta, pa, sa⟩ := ha
  obtain ⟨tb, pb, sb⟩ := hb
  refine ⟨_, fun Y ok => pw_or (pa Y ok) (pb Y ok), Snd.seq (tb := fun c σ H1 Q => if c = true then Q true H1 else tb σ H1 Q) sa fun w S e σ x v Q k he rx h => ?_⟩
  cases rx
  unfold orB at h
  cases x with
  | false => exact sb w S e σ Q k he h
  | true => exact h.ok_ k rfl
theorem XW.xt (h : XW Γ a gA) : XT Γ a gA := by
  obtain ⟨ta, pa, sa⟩ := h
  exact ⟨_, fun Y ok => (pa Y ok).pt, sa⟩
theorem xt_not (ha : XT Γ a gA) : XT Γ (.UnaryOp .Not a pos) fun e S => (gA e S).bind fun x S => .ok (!x) S := by
  obtain ⟨ta, pa, sa⟩ := ha
  refine ⟨_, fun Y ok => pt_not (pa Y ok), Snd.seq (tb := fun c σ H1 Q => Q (!c) H1) sa fun w S e σ x v Q k he rx h => ?_⟩
  cases rx
  exact h.ok_ k rfl
def blD (x : D) (S : Store) : Ro Bool := match x with
  | .bl b => .ok b S
  | _ => .stuck
theorem post_blD {T : Ks} {E : XK} {w : Wd} {S : Store} {x : D} {v : V} {γ δ : Type} {R' : Wd → γ → δ → Prop} {f : Bool → Store → Ro γ} {Q : δ → Hp → Prop} (rx : RV T w x v) (h : Post T R' E w ((blD x S).bind f) Q) : ∃ c, x = .bl c ∧ v = .bl c ∧ Post T R' E w (f c S) Q := by
  cases rx <;> first | exact h.elim | skip
  exact ⟨_, rfl, rfl, h⟩
theorem xe_one {op : BoolOp} (ha : XE Γ a fa) : XE Γ (.BoolOp op [a] pos) fa := by
  obtain ⟨ta, pa, sa⟩ := ha
  exact ⟨_, fun Y ok => pe_one (pa Y ok), sa⟩
def andD (g : FD) (x : Bool) (e : Pv.Env) (S : Store) : Ro D := if x then g e S else .ok (.bl false) S
def orD (g : FD) (x : Bool) (e : Pv.Env) (S : Store) : Ro D := if x then .ok (.bl true) S else g e S
theorem xe_and (ha : XE Γ a fa) (hb : XE Γ (.BoolOp .And (b :: rest) pos) fb) : XE Γ (.BoolOp .And (a :: b :: rest) pos) fun e S => (fa e S).bind fun x S => (blD x S).bind fun k S => andD fb k e S := by
  obtain ⟨ta, pa, sa⟩ := ha
  obtain ⟨tb, pb, sb⟩ := hb
  refine ⟨_, fun Y ok => pe_and (pa Y ok) (pb Y ok), Snd.seq (tb := fun x σ H1 (Q : VK) => ∃ c, x = .bl c ∧ if c = true then tb σ H1 Q else Q (.bl false) H1) sa fun w S e σ x v Q k he rx h => ?_⟩
  obtain ⟨c, rfl, rfl, h⟩ := post_blD rx h
  refine ⟨c, rfl, ?_⟩
  unfold andD at h
  cases c with
  | true => exact sb w S e σ Q k he h
  | false => exact post_val k (.bl _) h
theorem xe_or (ha : XE Γ a fa) (hb : XE Γ (.BoolOp .Or (b :: rest) pos) fb) : XE Γ (.BoolOp .Or (a :: b :: rest) pos) fun e S => (fa e S).bind fun x S => (blD x S).bind fun k S => orD fb k e S := by
  obtain ⟨ta, pa, sa⟩ := ha
  obtain ⟨tb, pb, sb⟩ := hb
  refine ⟨_, fun Y ok => pe_or (pa Y ok) (pb Y ok), Snd.seq (tb := fun x σ H1 (Q : VK) => ∃ c, x = .bl c ∧ if c = true then Q (.bl true) H1 else tb σ H1 Q) sa fun w S e σ x v Q k he rx h => ?_⟩
  obtain ⟨c, rfl, rfl, h⟩ := post_blD rx h
  refine ⟨c, rfl, ?_⟩
  unfold orD at h
  cases c with
  | false => exact sb w S e σ Q k he h
  | true => exact post_val k (.bl _) h
theorem xe_not (ha : XE Γ a fa) : XE Γ (.UnaryOp .Not a pos) fun e S => (fa e S).bind fun x S => (blD x S).bind fun k S => .ok (.bl (!k)) S := by
  obtain ⟨ta, pa, sa⟩ := ha
  refine ⟨_, fun Y ok => pe_not (pa Y ok), Snd.seq (tb := fun x σ H1 (Q : VK) => ∃ c, x = .bl c ∧ Q (.bl (!c)) H1) sa fun w S e σ x v Q k he rx h => ?_⟩
  obtain ⟨c, rfl, rfl, h⟩ := post_blD rx h
  exact ⟨c, rfl, post_val k (.bl _) h⟩
def ifD (f g : FD) (x : Bool) (e : Pv.Env) (S : Store) : Ro D := if x then f e S else g e S
theorem xe_ife (hc : XT Γ c gA) (ha : XE Γ a fa) (hb : XE Γ b fb) : XE Γ (.IfExp c a b pos) fun e S => (gA e S).bind fun x S => ifD fa fb x e S := by
  obtain ⟨tc, pc, sc⟩ := hc
  obtain ⟨ta, pa, sa⟩ := ha
  obtain ⟨tb, pb, sb⟩ := hb
  refine ⟨_, fun Y ok => pe_ifExp (pc Y ok) (pa Y ok) (pb Y ok), Snd.seq (tb := fun c σ H1 Q => if c = true then ta σ H1 Q else tb σ H1 Q) sc fun w S e σ x v Q k he rx h => ?_⟩
  cases rx
  unfold ifD at h
  cases x with
  | true => exact sa w S e σ Q k he h
  | false => exact sb w S e σ Q k he h
variable {es : List Expr} {ga : FL}
theorem xa_nil : XA Γ [] fun _ S => .ok [] S := ⟨_, fun _ _ => pa_nil, fun w S e σ Q k he h => h.ok_ k .nil⟩
def consL (x : D) (r : Ro (List D)) : Ro (List D) := r.bind fun xs S => .ok (x :: xs) S
theorem xa_cons (ha : XE Γ a fa) (hr : XA Γ es ga) (hs : ∀ env, starEach (a :: es) env = (false, eval a env) :: starEach es env) : XA Γ (a :: es) fun e S => (fa e S).bind fun x S => consL x (ga e S) := by
  obtain ⟨ta, pa, sa⟩ := ha
  obtain ⟨tr, pr, sr⟩ := hr
  refine ⟨_, fun Y ok => pa_cons (pa Y ok) (pr Y ok) (hs _), Snd.seq (tb := fun x σ H1 Q => tr σ H1 fun xs H2 => Q (x :: xs) H2) sa fun w S e σ x v Q k he rx h => ?_⟩
  refine sr w S e σ _ k he (Post.bind k h fun xs S1 w1 vs _ hle k1 rs h1 => ?_)
  exact h1.ok_ k1 (.cons (Rep.le hle rx) rs)
def szD (f : List D → D) (xs : List D) (S : Store) : Ro D := if xs.length ≤ SZ then .ok (f xs) S else .stuck
theorem post_sz {T : Ks} {E : XK} {w : Wd} {S : Store} {Q : VK} {f : List D → D} {xs : List D} (h : Post T (RV T) E w (szD f xs S) Q) : xs.length ≤ SZ ∧ Post T (RV T) E w (.ok (f xs) S) Q := by
  unfold szD at h
  split at h
  · exact ⟨by assumption, h⟩
  · exact h.elim
theorem xe_tup {kk : Nat} (ha : XA Γ es ga) : XE Γ (.Tuple es kk pos) fun e S => (ga e S).bind fun xs S => szD .tup xs S := by
  obtain ⟨ta, pa, sa⟩ := ha
  refine ⟨_, fun Y ok => pe_tup (pa Y ok), Snd.seq (tb := fun xs σ H1 (Q : VK) => xs.length ≤ sizeLine ∧ ∀ p, H1 p = none → Q (.ref p) (upd H1 p (.tup xs))) sa fun w S e σ xs vs Q k he rs h => ?_⟩
  obtain ⟨h1, h2⟩ := post_sz h
  exact ⟨by rw [← rs.length, SZ_eq]; exact h1, fun p hp => post_tup k rs h2 p hp⟩
theorem xe_lst (ha : XA Γ es ga) : XE Γ (.List es pos) fun e S => (ga e S).bind fun xs S => szD .lst xs S := by
  obtain ⟨ta, pa, sa⟩ := ha
  refine ⟨_, fun Y ok => pe_lst (pa Y ok), Snd.seq (tb := fun xs σ H1 (Q : VK) => xs.length ≤ sizeLine ∧ ∀ p, H1 p = none → Q (.ref p) (upd H1 p (.lst xs))) sa fun w S e σ xs vs Q k he rs h => ?_⟩
  obtain ⟨h1, h2⟩ := post_sz h
  exact ⟨by rw [← rs.length, SZ_eq]; exact h1, fun p hp => post_lst k rs h2 p hp⟩
def nlsD (xs : List D) (S : Store) : Ro D := if xs.length ≤ SZ then .ok (.obj S.length) (S ++ [.lst xs]) else .stuck
theorem xe_nls (ha : XA Γ es ga) : XE Γ (.List es pos) fun e S => (ga e S).bind fun xs S => nlsD xs S := by
  obtain ⟨ta, pa, sa⟩ := ha
  refine ⟨_, fun Y ok => pe_lst (pa Y ok), Snd.seq (tb := fun xs σ H1 (Q : VK) => xs.length ≤ sizeLine ∧ ∀ p, H1 p = none → Q (.ref p) (upd H1 p (.lst xs))) sa fun w S e σ xs vs Q k he rs h => ?_⟩
  unfold nlsD at h
  split at h
  · exact ⟨by rw [← rs.length, SZ_eq]; assumption, fun p hp => post_nls k rs h p hp⟩
  · exact h.elim
theorem xe_edc : XE Γ (.Dict [] [] pos) fun _ S => .ok .edc S :=
  ⟨_, fun _ _ => pe_dnewK, fun w S e σ Q k he h p hp => by
    obtain ⟨k1, x⟩ := k.freeze (o := .dK []) hp
    exact h _ _ x k1 (.edc upd_same)⟩
theorem xe_idx (ha : XE Γ a fa) (hb : XE Γ b fb) (hs : PlainIx b) : XE Γ (.Subscript a b pos) fun e S => (fa e S).bind fun x S => (fb e S).bind fun y S => Ro.opt (ixD S x y) S := by
  obtain ⟨ta, pa, sa⟩ := ha
  obtain ⟨tb, pb, sb⟩ := hb
  refine ⟨tOp (rIxA Γ.T.K Γ.T.W) ta tb, fun Y ok => pe_ix ix_any (pa Y ok) (pb Y ok) hs, Snd.two sa sb fun w S x y v u Q k rx ry h => ?_⟩
  obtain ⟨d, e, h⟩ := post_opt h
  exact ix_leaf k rx ry e Q fun z rz => post_val k rz h
abbrev FO := Pv.Env → Store → Ro (Option Int)
def XO (Γ : Ct) (e : Option Expr) (f : FO) : Prop := ∃ t, (∀ Y, Γ.Ok Y → PO (Γ.cx Y) e t) ∧ Snd Γ.T Γ.E RO t f
theorem XO.to {Γ : Ct} {e : Option Expr} {f g : FO} (h : XO Γ e f) (q : ∀ v S, g v S = f v S) : XO Γ e g := by
  have : g = f := funext fun v => funext fun S => q v S
  rw [this]
  exact h
theorem xo_none : XO Γ none fun _ S => .ok none S := ⟨_, fun _ _ => po_none, fun w S e σ Q k he h => h.ok_ k rfl⟩
theorem xo_some (ha : XE Γ a fa) : XO Γ (some a) fun e S => (fa e S).bind fun x S => Ro.opt (prt x) S := by
  obtain ⟨ta, pa, sa⟩ := ha
  refine ⟨_, fun Y ok => po_some (pa Y ok), Snd.one (r := fun x H1 Q => ∃ i, x = .int i ∧ Q (some i) H1) sa fun w S x v Q k rx h => ?_⟩
  cases rx <;> first | exact h.elim | skip
  exact ⟨_, rfl, h.ok_ k rfl⟩
theorem xe_slc {lo hi : Option Expr} {p2 : Pos} {fl fh : FO} (ha : XE Γ a fa) (hl : XO Γ lo fl) (hh : XO Γ hi fh) : XE Γ (.Subscript a (.Slice lo hi none p2) pos) fun e S => (fa e S).bind fun x S => (fl e S).bind fun l S => (fh e S).bind fun u S => Ro.opt (slcD S x l u) S := by
  obtain ⟨ta, pa, sa⟩ := ha
  obtain ⟨tl, pl, sl⟩ := hl
  obtain ⟨th, ph, sh⟩ := hh
  refine ⟨tSl (rSlAll Γ.T.K) ta tl th, fun Y ok => pe_slice sl_any (pa Y ok) (pl Y ok) (ph Y ok), Snd.seq (tb := fun x σ H1 Q => tl σ H1 fun l H2 => th σ H2 fun u H3 => rSlAll Γ.T.K x l u H3 Q) sa fun w S e σ x v Q k he rx h => ?_⟩
  refine sl w S e σ _ k he (Post.bind k h fun l S1 w1 l' _ hle k1 rl h1 => ?_)
  cases rl
  refine sh w1 S1 e σ _ k1 (he.le hle) (Post.bind k1 h1 fun u S2 w2 u' _ hle2 k2 ru h2 => ?_)
  cases ru
  exact sl_leaf k2 (Rep.le hle2 (Rep.le hle rx)) h2
end
end Pv
namespace Pv
open PySem L2
def notStar : Expr → Bool
  | .Starred .. => false
  | _ => true
theorem star_cons {e : Expr} {es : List Expr} (h : notStar e = true) (env : PySem.Env) : starEach (e :: es) env = (false, eval e env) :: starEach es env := by
  cases e <;> first | rfl | cases h
theorem star_plain {pos : Pos} (env : PySem.Env) : ∀ {es : List Expr}, es.all notStar = true → (backTo pos (starEach es env)).any (·.1) = false
  | [], _ => rfl
  | e :: es, h => by
    (rw [List.all_cons, Bool.and_eq_true] at h)
    rw [star_cons h.1]
    have ih := star_plain (pos := pos) env h.2
    unfold backTo at ih ⊢
    rw [List.map_cons, List.any_cons, ih]
    rfl
theorem star_all {pos : Pos} (env : PySem.Env) : ∀ {es : List Expr}, es.all notStar = true → (backTo pos (starEach es env)).all (fun x => !x.1) = true
  | [], _ => rfl
  | e :: es, h => by
    (rw [List.all_cons, Bool.and_eq_true] at h)
    rw [star_cons h.1]
    have ih := star_all (pos := pos) env h.2
    unfold backTo at ih ⊢
    rw [List.map_cons, List.all_cons, ih]
    rfl
/-- no call of a bare name: super() can't stand there -/
def baseOk : Expr → Bool
  | .Call (.Name _ _) [] [] _ => false
  | _ => true
theorem base_ok {o : Expr} (h : baseOk o = true) (name : Str) (env : PySem.Env) : attributeBase o name env (eval o env) = eval o env := by
  unfold baseOk at h
  split at h
  · cases h
  · unfold attributeBase
    split
    · rename_i hn
      exact absurd rfl (hn _ _ _)
    · rfl
def plainIx : Expr → Bool
  | .Slice .. => false
  | _ => true
theorem plain_ix {b : Expr} (h : plainIx b = true) : PlainIx b := by
  intro o i
  cases b <;> first | rfl | cases h
/-- whose test is its value's truth -/
def truEx : Expr → Bool
  | .UnaryOp .. => false
  | .BoolOp .. => false
  | .IfExp .. => false
  | .Compare .. => false
  | _ => true
theorem tru_ex {a : Expr} (h : truEx a = true) (env : PySem.Env) (whole : Sem Value) : isTrue a env whole = (do let v ← whole; standAt a.pos; holding [v] (truthy v)) := by
  cases a <;> first | rfl | cases h
section
variable {Γ : Ct} {a b c : Expr} {fa fb fc : FD} {pos p : Pos} {x : Str}
def Bi.nm : Bi → Str
  | .len => "len" | .int => "int" | .str => "str" | .list => "list" | .tuple => "tuple" | .sum => "sum" | .all => "all"
def rBi (K : PySem.W.Frag) : Bi → List V → Hp → VK → Prop
  | .len => fun xs H Q => ∃ x n, xs = [x] ∧ LenV K x H n ∧ Q (.int n) H
  | .int => rIntA
  | .str => fun xs H Q => ∃ i, xs = [.int i] ∧ i.natAbs.log2 < 1920 ∧ Q (.str (toString i)) H
  | .list => rListA K
  | .tuple => fun xs H Q => ∃ p ys, xs = [.ref p] ∧ ((SqL K H p ys ∧ ∀ l, H l = none → Q (.ref l) (upd H l (.tup ys))) ∨ (SqT K H p ys ∧ Q (.ref p) H))
  | .sum => rSum K
  | .all => rAll K
theorem boot_len' : bootBuiltins "len" = some (.builtin "len") := by decide +kernel
theorem boot_sum' : bootBuiltins "sum" = some (.builtin "sum") := by decide +kernel
theorem boot_all' : bootBuiltins "all" = some (.builtin "all") := by decide +kernel
theorem boot_isi' : bootBuiltins "isinstance" = some (.builtin "isinstance") := by decide +kernel
theorem pe_bi {Y : Dy} (ok : Γ.Ok Y) (o : Bi) {t : TA} (hg : Gl (Γ.cx Y) o.nm) (hm : Γ.M.mg o.nm = none) (ha : PA (Γ.cx Y) [a] t) (hs : notStar a = true) : PE (Γ.cx Y) (.Call (.Name o.nm p) [a] [] pos) (tCB (rBi Γ.T.K o) t) := by
  have h1 := star_cons (es := []) hs Y.env
  have h2 := star_plain (pos := pos) Y.env (es := []) rfl
  cases o with
  | len => exact pe_callB call_len hg hm boot_len' ha (by decide) (by decide) h1 h2
  | int => exact pe_callTy call_intA hg hm PyProof.Rows.boot_int ha (by decide) (by decide) h1 h2
  | str => exact pe_callTy call_str_int hg hm PyProof.Rows.boot_str ha (by decide) (by decide) h1 h2
  | list => exact pe_callTy (call_listA rfl) hg hm PyProof.Rows.boot_list ha (by decide) (by decide) h1 h2
  | tuple => exact pe_callTy call_tuple_of hg hm PyProof.Rows.boot_tuple ha (by decide) (by decide) h1 h2
  | sum => exact pe_callB (cr_sum rfl) hg hm boot_sum' ha (by decide) (by decide) h1 h2
  | all => exact pe_callB (cr_all rfl) hg hm boot_all' ha (by decide) (by decide) h1 h2
theorem bi_leaf {T : Ks} {E : XK} {w : Wd} {S : Store} {x : D} {v : V} {Q : VK} (o : Bi) (k : w.ok T S) (rx : RV T w x v) (h : Post T (RV T) E w (Ro.opt (biD o S x) S) Q) : rBi T.K o [v] w.H Q := by
  cases o with
  | len =>
    obtain ⟨d, e, h⟩ := post_opt h
    obtain ⟨n, h1, h2⟩ := Option.map_eq_some_iff.mp e
    subst h2
    exact ⟨v, n, rfl, len_leaf k rx h1, post_val k (.int _) h⟩
  | int =>
    obtain ⟨d, e, h⟩ := post_opt h
    cases rx <;> first | (cases e; done) | skip
    · cases e; exact .inl (.inr ⟨_, rfl, post_val k (.int _) h⟩)
    · cases e; exact .inl (.inl ⟨_, rfl, post_val k (.int _) h⟩)
    · obtain ⟨n, h1, h2⟩ := Option.map_eq_some_iff.mp e
      subst h2
      obtain ⟨h3, h4⟩ := intS_ok h1
      exact .inr ⟨_, n, rfl, h3, h4, post_val k (.int _) h⟩
  | str =>
    obtain ⟨d, e, h⟩ := post_opt h
    cases rx <;> first | (cases e; done) | skip
    rename_i i
    have e' : (if i.natAbs < 2 ^ 200 then some (D.str (numS i)) else none) = some d := e
    split at e'
    · rename_i hl
      cases e'
      refine ⟨i, rfl, log_lt hl, ?_⟩
      rw [num_sv]
      exact post_val k (.str _) h
    · cases e'
  | list =>
    obtain ⟨d, e, h⟩ := post_opt h
    have hd : ∃ ds, d = .lst ds := by
      cases rx <;> first
        | (cases e; exact ⟨_, rfl⟩)
        | (cases e; done)
        | (have e' := e; unfold biD at e'; simp only at e'; split at e' <;> first | (cases e'; exact ⟨_, rfl⟩) | (cases e'; done))
        | (obtain ⟨_, _, h2⟩ := Option.map_eq_some_iff.mp e; exact ⟨_, h2.symm⟩)
    obtain ⟨ds, rfl⟩ := hd
    exact list_leaf k rx e fun vs rs p hp => post_lst k rs h p hp
  | tuple => exact tuple_leaf k rx h
  | sum =>
    obtain ⟨d, e, h⟩ := post_opt h
    obtain ⟨ns, h1, h2⟩ := Option.map_eq_some_iff.mp e
    subst h2
    obtain ⟨xs, h3, h4⟩ := Option.bind_eq_some_iff.mp h1
    obtain ⟨a, vs, rfl, ha, rs⟩ := items_at k rx h3
    have := ints_rep rs h4
    subst this
    exact ⟨a, ns, rfl, sql_of ha, post_val k (.int _) h⟩
  | all =>
    obtain ⟨d, e, h⟩ := post_opt h
    obtain ⟨ns, h1, h2⟩ := Option.map_eq_some_iff.mp e
    subst h2
    obtain ⟨xs, h3, h4⟩ := Option.bind_eq_some_iff.mp h1
    obtain ⟨a, vs, rfl, ha, rs⟩ := items_at k rx h3
    have := bls_rep rs h4
    subst this
    exact ⟨a, ns, rfl, sql_of ha, post_val k (.bl _) h⟩
theorem xe_bi (o : Bi) (ha : XE Γ a fa) (hg : Γ.sc.names.lookup o.nm = some .globalImplicit) (hm : Γ.M.mg o.nm = none) (hs : notStar a = true) : XE Γ (.Call (.Name o.nm p) [a] [] pos) fun e S => (fa e S).bind fun x S => Ro.opt (biD o S x) S := by
  obtain ⟨ta, pa, sa⟩ := ha
  refine ⟨tCB (rBi Γ.T.K o) (tCons ta tNil), fun Y ok => pe_bi ok o (glY ok hg) hm (pa_cons (pa Y ok) pa_nil (star_cons hs _)) hs, ?_⟩
  exact Snd.one (r := fun v H1 Q => rBi Γ.T.K o [v] H1 Q) sa fun w S x v Q k rx h => bi_leaf o k rx h
/-- list(x), a live list -/
def nliD (x : D) (S : Store) : Ro D := match biD .list S x with
  | some (.lst xs) => .ok (.obj S.length) (S ++ [.lst xs])
  | _ => .stuck
theorem xe_nli (ha : XE Γ a fa) (hg : Γ.sc.names.lookup (Bi.nm .list) = some .globalImplicit) (hm : Γ.M.mg (Bi.nm .list) = none) (hs : notStar a = true) : XE Γ (.Call (.Name (Bi.nm .list) p) [a] [] pos) fun e S => (fa e S).bind fun x S => nliD x S := by
  obtain ⟨ta, pa, sa⟩ := ha
  refine ⟨tCB (rBi Γ.T.K .list) (tCons ta tNil), fun Y ok => pe_bi ok .list (glY ok hg) hm (pa_cons (pa Y ok) pa_nil (star_cons hs _)) hs, ?_⟩
  refine Snd.one (r := fun v H1 Q => rBi Γ.T.K .list [v] H1 Q) sa fun w S x v Q k rx h => ?_
  unfold nliD at h
  split at h
  · rename_i xs e
    exact list_leaf k rx e fun vs rs p hp => post_nls k rs h p hp
  · exact h.elim
/-- names of types, as a list of arguments -/
def tTys (ts : List Ty) : TA := fun _ H Q => Q (ts.map fun U => .ty U.nm) H
def Ty.sn : Ty → Str
  | .str => "str" | .int => "int" | .bool => "bool" | .list => "list" | .tuple => "tuple" | .dict => "dict"
theorem boot_ty : ∀ t : Ty, bootBuiltins t.sn = some (.type t.nm)
  | .str => PyProof.Rows.boot_str
  | .int => PyProof.Rows.boot_int
  | .bool => PyProof.Rows.boot_bool
  | .list => PyProof.Rows.boot_list
  | .tuple => PyProof.Rows.boot_tuple
  | .dict => PyProof.Rows.boot_dict
/-- the expressions are these types' names -/
def tysAre (Γ : Ct) : List Ty → List Expr → Prop
  | [], [] => True
  | t :: ts, .Name x _ :: es => x = t.sn ∧ Γ.sc.names.lookup x = some .globalImplicit ∧ Γ.M.mg x = none ∧ tysAre Γ ts es
  | _, _ => False
theorem pe_ty {Y : Dy} (ok : Γ.Ok Y) (t : Ty) (hg : Γ.sc.names.lookup t.sn = some .globalImplicit) (hm : Γ.M.mg t.sn = none) : PE (Γ.cx Y) (.Name t.sn p) (tC (.ty t.nm)) :=
  pe_bltn (glY ok hg) hm (boot_ty t) rfl (by cases t <;> decide) (by cases t <;> decide)
theorem pa_tys {Y : Dy} (ok : Γ.Ok Y) : ∀ {ts : List Ty} {es : List Expr}, tysAre Γ ts es → PA (Γ.cx Y) es (tTys ts)
  | [], [], _ => pa_nil
  | t :: ts, .Name x _ :: es, h => by
    obtain ⟨rfl, hg, hm, h⟩ := h
    exact pa_cons (te := tC (.ty t.nm)) (t := tTys ts) (pe_ty ok t hg hm) (pa_tys ok h) (star_cons rfl _)
theorem tys_star : ∀ {ts : List Ty} {es : List Expr}, tysAre Γ ts es → es.all notStar = true
  | [], [], _ => rfl
  | t :: ts, .Name x _ :: es, h => by
    rw [List.all_cons, tys_star h.2.2.2]
    rfl
theorem clsv_tys : ∀ ts : List Ty, Paired ClsV (ts.map fun U => V.ty U.nm) (ts.map fun U => Value.type U.nm)
  | [] => .nil
  | t :: ts => .cons (.ty _) (clsv_tys ts)
theorem xe_isi1 {t : Ty} {p2 : Pos} (ha : XE Γ a fa) (hg : Γ.sc.names.lookup ("isinstance" : Str) = some .globalImplicit) (hm : Γ.M.mg ("isinstance" : Str) = none) (hs : notStar a = true) (ht : tysAre Γ [t] [.Name x p2]) :
    XE Γ (.Call (.Name "isinstance" p) [a, .Name x p2] [] pos) fun e S => (fa e S).bind fun x S => Ro.opt ((isiD S x [t]).map .bl) S := by
  obtain ⟨ta, pa, sa⟩ := ha
  refine ⟨tCB (rIsi Γ.T.K) (tCons ta (tTys [t])), fun Y ok => pe_callB call_isi (glY ok hg) hm boot_isi' (pa_cons (pa Y ok) (pa_tys ok ht) (star_cons hs _)) (by decide) (by decide) (star_cons hs _) (star_plain _ (tys_star ht)), ?_⟩
  refine Snd.one (r := fun v H1 Q => rIsi Γ.T.K [v, .ty t.nm] H1 Q) sa fun w S x v Q k rx h => ?_
  obtain ⟨b, h1, q⟩ := post_bl k h
  obtain ⟨u, ty, e⟩ := isi_leaf k rx h1
  refine ⟨v, _, _, _, b, rfl, .ty _, ty, kit_ty ((kit_tab u t).trans ?_), q⟩
  rw [← e]
  simp
theorem xe_isiT {ts : List Ty} {es : List Expr} {kk : Nat} {p2 : Pos} (ha : XE Γ a fa) (hg : Γ.sc.names.lookup ("isinstance" : Str) = some .globalImplicit) (hm : Γ.M.mg ("isinstance" : Str) = none) (hs : notStar a = true) (ht : tysAre Γ ts es) (hz : ts.length ≤ 100) :
    XE Γ (.Call (.Name "isinstance" p) [a, .Tuple es kk p2] [] pos) fun e S => (fa e S).bind fun x S => Ro.opt ((isiD S x ts).map .bl) S := by
  obtain ⟨ta, pa, sa⟩ := ha
  refine ⟨tCB (rIsiT Γ.T.K) (tCons ta (tCons (tTup (tTys ts)) tNil)), fun Y ok => pe_callB call_isiT (glY ok hg) hm boot_isi' (pa_cons (pa Y ok) (pa_cons (pe_tup (pa_tys ok ht)) pa_nil (star_cons rfl _)) (star_cons hs _)) (by decide) (by decide) (star_cons hs _) (star_plain _ rfl), ?_⟩
  refine Snd.one (r := fun v H1 Q => (ts.map fun U => V.ty U.nm).length ≤ sizeLine ∧ ∀ p, H1 p = none → rIsiT Γ.T.K [v, .ref p] (upd H1 p (.tup (ts.map fun U => V.ty U.nm))) Q) sa fun w S x v Q k rx h => ?_
  refine ⟨by rw [List.length_map, SZ_eq]; exact Nat.le_trans hz (by decide), fun p hp => ?_⟩
  obtain ⟨k1, hx⟩ := k.grow (o := .tup (ts.map fun U => V.ty U.nm)) hp
  obtain ⟨b, h1, q⟩ := post_bl k1 (Post.shift k k1 hx h)
  obtain ⟨u, ty, e⟩ := isi_leaf k1 (Rep.le hx rx) h1
  exact ⟨v, p, _, _, _, b, rfl, upd_same, clsv_tys ts, ty, (kit_all _ u ts).trans (by rw [e]), q⟩
def Me.nm : Me → Str
  | .append => "append" | .extend => "extend" | .pop => "pop" | .popAt => "pop" | .split => "split" | .join => "join" | .find => "find" | .lstrip => "lstrip" | .replace => "replace"
def Me.id : Me → String
  | .append => "list.append" | .extend => "list.extend" | .pop => "list.pop" | .popAt => "list.pop" | .split => "str.split" | .join => "str.join" | .find => "str.find" | .lstrip => "str.lstrip" | .replace => "str.replace"
theorem me_attrs : ∀ m : Me, PlainAttrs m.ty
  | .append => PySem.F.plainAttrs_list | .extend => PySem.F.plainAttrs_list | .pop => PySem.F.plainAttrs_list | .popAt => PySem.F.plainAttrs_list
  | .split => PySem.F.plainAttrs_str | .join => PySem.F.plainAttrs_str | .find => PySem.F.plainAttrs_str | .lstrip => PySem.F.plainAttrs_str | .replace => PySem.F.plainAttrs_str
theorem me_slot : ∀ m : Me, Slot m.ty m.nm m.id
  | .append => PySem.F.slot_list_append | .extend => PySem.F.slot_list_extend | .pop => PySem.F.slot_list_pop | .popAt => PySem.F.slot_list_pop
  | .split => PySem.F.slot_str_split | .join => PySem.F.slot_str_join | .find => PySem.F.slot_str_find | .lstrip => PySem.F.slot_str_lstrip | .replace => PySem.F.slot_str_replace
theorem me_type : ∀ m : Me, typeOf (.builtin m.id) = pure (.type "method_descriptor")
  | .append => PySem.F.type_list_append | .extend => PySem.F.type_list_extend | .pop => PySem.F.type_list_pop | .popAt => PySem.F.type_list_pop
  | .split => PySem.F.type_str_split | .join => PySem.F.type_str_join | .find => PySem.F.type_str_find | .lstrip => PySem.F.type_str_lstrip | .replace => PySem.F.type_str_replace
theorem mt_me {X : Cx} : ∀ m : Me, MtR X m.id (rMe X.K m)
  | .append => mt_append
  | .extend => mt_extend
  | .pop => mt_pop
  | .popAt => mt_popAt
  | .split => mt_split
  | .join => mt_join
  | .find => mt_find3
  | .lstrip => mt_lstripChars
  | .replace => fun _ _ _ _ _ _ _ _ _ _ _ _ h => h.elim
theorem me_ty {T : Ks} {w : Wd} {S : Store} {x : D} {v : V} (m : Me) (k : w.ok T S) (rx : RV T w x v) (h : meT m S x = true) : tyV T.K m.ty v w.H := by
  have st : x.isS = true → tyV T.K "str" v w.H := fun h => by
    cases rx <;> first | (cases h; done) | rfl
  have ls : (live S x).isSome = true → tyV T.K "list" v w.H := fun h => by
    obtain ⟨p, hp⟩ := Option.isSome_iff_exists.mp h
    obtain ⟨n, a, xs, vs, rfl, rfl, hn, hS, ha, r, _⟩ := live_at k rx (f := fun _ _ => some ()) (r := ()) (by rw [hp]; rfl)
    exact .inl ⟨rfl, _, sql_of ha⟩
  cases m <;> first | exact ls h | exact st h
theorem me_leaf {T : Ks} {E : XK} {w : Wd} {S : Store} {x : D} {v : V} {as : List D} {us : List V} {Q : VK} (m : Me) (hm : m ≠ .replace) (k : w.ok T S) (rx : RV T w x v) (ra : RVs T w as us) (h : Post T (RV T) E w (meR (meD m S x as)) Q) : rMe T.K m v us w.H Q := by
  cases e : meD m S x as with
  | none => rw [e] at h; exact h.elim
  | some p =>
    obtain ⟨d, S'⟩ := p
    rw [e] at h
    cases m with
    | append =>
      have ha : ∃ y, as = [y] := by
        unfold meD at e
        split at e <;> first | exact ⟨_, rfl⟩ | (exfalso; contradiction)
      obtain ⟨y, rfl⟩ := ha
      cases ra with
      | cons r t => cases t; exact (me_append k rx r e h).2
    | extend =>
      have ha : ∃ y, as = [y] := by
        unfold meD at e
        split at e <;> first | exact ⟨_, rfl⟩ | (exfalso; contradiction)
      obtain ⟨y, rfl⟩ := ha
      cases ra with
      | cons r t => cases t; exact (me_extend k rx r e h).2
    | pop =>
      have ha : as = [] := by
        unfold meD at e
        split at e <;> first | rfl | (exfalso; contradiction)
      subst ha
      cases ra
      exact (me_pop k rx e h).2
    | popAt =>
      have ha : ∃ i, as = [.int i] := by
        unfold meD at e
        split at e <;> first | exact ⟨_, rfl⟩ | (exfalso; contradiction)
      obtain ⟨i, rfl⟩ := ha
      cases ra with
      | cons r t => cases t; cases r; exact (me_popAt k rx e h).2
    | split => exact (me_split k rx ra e h).2
    | join =>
      have ha : ∃ y, as = [y] := by
        unfold meD at e
        split at e <;> first | exact ⟨_, rfl⟩ | (exfalso; contradiction)
      obtain ⟨y, rfl⟩ := ha
      cases ra with
      | cons r t => cases t; exact (me_join k rx r e h).2
    | find => exact (me_find k rx ra e h).2
    | lstrip => exact (me_lstrip k rx ra e h).2
    | replace => exact absurd rfl hm
def meGo (m : Me) (x : D) (S : Store) (r : Ro (List D)) : Ro D := if meT m S x then r.bind fun xs S => meR (meD m S x xs) else .stuck
theorem me_snd {T : Ks} {E : XK} {ta : TA} {to : TE} {fo : FD} {ga : FL} (m : Me) (hm : m ≠ .replace) (so : Snd T E (RV T) to fo) (sa : Snd T E (RVs T) ta ga) :
    Snd T E (RV T) (tBM T.K m.ty (rMe T.K m) to ta) fun e S => (fo e S).bind fun x S => meGo m x S (ga e S) :=
  Snd.seq (tb := fun x σ H1 Q => tyV T.K m.ty x H1 ∧ ta σ H1 fun xs H2 => rMe T.K m x xs H2 Q) so fun w S e σ x v Q k he rx h => by
    unfold meGo at h
    split at h
    · rename_i ht
      refine ⟨me_ty m k rx ht, sa w S e σ _ k he (Post.bind k h fun xs S1 w1 vs _ hle k1 rs h1 => me_leaf m hm k1 (Rep.le hle rx) rs h1)⟩
    · exact h.elim
variable {o : Expr} {fo : FD} {es : List Expr} {ga : FL} {apos cpos : Pos}
theorem xe_me (m : Me) (hm : m ≠ .replace) (ho : XE Γ o fo) (ha : XA Γ (a :: es) ga) (hb : baseOk o = true) (hl : (apos.endLine == cpos.line) = true) (hs : (a :: es).all notStar = true) (hn : es.length < 20) :
    XE Γ (.Call (.Attribute o m.nm apos) (a :: es) [] cpos) fun e S => (fo e S).bind fun x S => meGo m x S (ga e S) := by
  obtain ⟨to, po, so⟩ := ho
  obtain ⟨ta, pa, sa⟩ := ha
  have hs' := hs
  rw [List.all_cons, Bool.and_eq_true] at hs'
  refine ⟨tBM Γ.T.K m.ty (rMe Γ.T.K m) to ta, fun Y ok => pe_bm (me_attrs m) (me_slot m) (me_type m) (mt_me m) (po Y ok) (pa Y ok) (base_ok hb _ _) ?_ hl (star_cons hs'.1 _) (star_plain _ hs'.2), me_snd m hm so sa⟩
  rw [star_all _ hs]
  simp [backToKw, keywordEach]
  omega
theorem xe_me0 (m : Me) (hm : m ≠ .replace) (ho : XE Γ o fo) (hb : baseOk o = true) (hl : (apos.endLine == cpos.line) = true) :
    XE Γ (.Call (.Attribute o m.nm apos) [] [] cpos) fun e S => (fo e S).bind fun x S => meGo m x S (.ok [] S) := by
  obtain ⟨to, po, so⟩ := ho
  refine ⟨tBM0 Γ.T.K m.ty (rMe Γ.T.K m) to, fun Y ok => pe_bm0 (me_attrs m) (me_slot m) (me_type m) (mt_me m) (po Y ok) (base_ok hb _ _) hl, ?_⟩
  refine Snd.seq (tb := fun x σ H1 Q => tyV Γ.T.K m.ty x H1 ∧ rMe Γ.T.K m x [] H1 Q) so fun w S e σ x v Q k he rx h => ?_
  unfold meGo at h
  split at h
  · rename_i ht
    exact ⟨me_ty m k rx ht, me_leaf m hm k rx .nil h⟩
  · exact h.elim
end
end Pv
namespace Pv
open PySem L2
def spOf (M : Gm) (k f : Nat) : Sp := fun vs H Q E => ∃ (w : Wd) (S : Store) (ds : List D), w.H = H ∧ w.ok M.T S ∧ RVs M.T w ds vs ∧ Post M.T (RV M.T) E w (callF M.pg k f ds S) Q
abbrev Gm.cx (M : Gm) : CXT := L2.CX M.P M.T.W
structure FnGood (M : Gm) (k f : Nat) (fd : FuncData) (ps : List Str) : Prop where
  ok : FnOk M.P M.T.W M.T.K M.mg M.base M.cx (4 * k + 4) (M.fa f) fd ps (spOf M k f)
  kp : PySem.W.keepIn M.T.K (.ref (M.fa f)) = true
  bd : Binds M.T.K fd ps []
theorem fn_snd {M : Gm} {k f : Nat} {E : XK} {ta : TA} {ga : FL} (sa : Snd M.T E (RVs M.T) ta ga) : Snd M.T E (RV M.T) (tCall (spOf M k f) [] E ta) fun e S => (ga e S).bind fun xs S => callF M.pg k f xs S :=
  Snd.seq (tb := fun vs σ H1 Q => spOf M k f (vs ++ []) H1 Q E) sa fun w S e σ xs vs Q kk he rs h => ⟨w, S, xs, rfl, kk, by rw [List.append_nil]; exact rs, h⟩
section
variable {Γ : Ct} {a b c o : Expr} {fa fb fc fo : FD} {pos p apos : Pos} {x m : Str} {es : List Expr} {ga : FL} {f : Nat} {fd : FuncData} {ps : List Str}
theorem Ct.Ok.pass {Y : Dy} (ok : Γ.Ok Y) : Passes Γ.M.cx (Γ.cx Y) Γ.E := passes_call ok.takes fun _ _ _ _ h => h
theorem Ct.Ok.room0 {Y : Dy} (ok : Γ.Ok Y) : Room (4 * Γ.k + 4) (Γ.cx Y).A := ok.room.mono (by omega)
theorem xe_call (F : FnGood Γ.M Γ.k f fd ps) (ha : XA Γ (a :: es) ga) (hg : Γ.sc.names.lookup x = some .globalImplicit) (hm : Γ.M.mg x = some (.ref (Γ.M.fa f))) (hd : (x == ("__debug__" : Str)) = false)
    (hs : (a :: es).all notStar = true) : XE Γ (.Call (.Name x p) (a :: es) [] pos) fun e S => (ga e S).bind fun xs S => Γ.cf.call f xs S := by
  obtain ⟨ta, pa, sa⟩ := ha
  have hs' := hs
  rw [List.all_cons, Bool.and_eq_true] at hs'
  exact ⟨tCall (spOf Γ.M Γ.k f) [] Γ.E ta, fun Y ok => pe_call F.ok ok.room0 (glY ok hg) hm F.kp F.bd .nil ok.pass (pa Y ok) hd (star_cons hs'.1 _) (star_plain _ hs'.2), fn_snd sa⟩
theorem nil_snd {T : Ks} {E : XK} : Snd T E (RVs T) tNil fun _ S => .ok [] S := fun w S e σ Q k he h => h.ok_ k .nil
theorem xe_call0 (F : FnGood Γ.M Γ.k f fd ps) (hg : Γ.sc.names.lookup x = some .globalImplicit) (hm : Γ.M.mg x = some (.ref (Γ.M.fa f))) (hd : (x == ("__debug__" : Str)) = false) :
    XE Γ (.Call (.Name x p) [] [] pos) fun e S => Γ.cf.call f [] S :=
  ⟨tCall (spOf Γ.M Γ.k f) [] Γ.E tNil, fun Y ok => pe_call0 F.ok ok.room0 (glY ok hg) hm F.kp F.bd .nil ok.pass hd, fn_snd nil_snd⟩
def tK1 (sp : Sp) (E : XK) (te : TE) : TE := fun σ H Q => te σ H fun x H2 => [x].length = 1 ∧ sp [x] H2 Q E
theorem pe_callK1 {X : Cx} {CX : CXT} {k : Nat} {f : Addr} {sp : Sp} {E : XK} {kpos : Pos} {te : TE} {n : Str} (F : FnOk X.prog X.w X.K X.mg X.base CX k f fd ps sp) (hr : Room k X.A) (hg : Gl X x) (hm : X.mg x = some (.ref f)) (hk : PySem.W.keepIn X.K (.ref f) = true)
    (hb : KBn X.K fd ps 0 [n] (fun _ ws => ws) (fun _ zs => zs)) (hx : Passes CX X E) (ha : PE X a te) (hdb : (x == ("__debug__" : Str)) = false) : PE X (.Call (.Name x p) [] [⟨some n, a, kpos⟩] pos) (tK1 sp E te) := by
  have hkw : PK X [⟨some n, a, kpos⟩] (tCons te tNil) := pk_cons ha pk_nil
  (refine ⟨fun pins s σ H Q I h => ?_⟩)
  (refine wpAny_Call_Name_kw (ld_glob I hg hm ?_ hdb))
  refine PySem.W.callWith_KW0 (h₀ := X.base) I.ok.mod.kin hk rfl (thn (hkw.run pos pins s σ H (fun zs H2 => zs.length = 1 ∧ sp zs H2 Q E) I h) fun ws s2 ⟨zs, H2, I2, rz, l2, q2⟩ => ⟨I2.kIn, ?_⟩)
  exact run_fnN F hr hb hx I2 .nil rz rfl l2 q2
theorem xe_callK1 {kpos : Pos} {n : Str} (F : FnGood Γ.M Γ.k f fd ps) (hb : KBn Γ.T.K fd ps 0 [n] (fun _ ws => ws) (fun _ zs => zs)) (ha : XE Γ a fa) (hg : Γ.sc.names.lookup x = some .globalImplicit) (hm : Γ.M.mg x = some (.ref (Γ.M.fa f))) (hd : (x == ("__debug__" : Str)) = false) :
    XE Γ (.Call (.Name x p) [] [⟨some n, a, kpos⟩] pos) fun e S => (fa e S).bind fun x S => Γ.cf.call f [x] S := by
  obtain ⟨ta, pa, sa⟩ := ha
  refine ⟨tK1 (spOf Γ.M Γ.k f) Γ.E ta, fun Y ok => pe_callK1 F.ok ok.room0 (glY ok hg) hm F.kp hb ok.pass (pa Y ok) hd, ?_⟩
  exact Snd.one (r := fun v H1 Q => [v].length = 1 ∧ spOf Γ.M Γ.k f [v] H1 Q Γ.E) sa fun w S x v Q k rx h => ⟨rfl, w, S, [x], rfl, k, .cons rx .nil, h⟩
theorem born_ins {T : Ks} {w : Wd} {S : Store} (k : w.ok T S) {x dx : Addr} {c : Nat} (hx : w.H x = none) (hd : w.H dx = none) (hn : dx ≠ x) :
    (Wd.mk (upd (upd w.H dx (.own x)) x (.ins (T.cls c) dx [])) w.G (w.φ ++ [x])).ok T (S ++ [.ins c []]) ∧ w.le (Wd.mk (upd (upd w.H dx (.own x)) x (.ins (T.cls c) dx [])) w.G (w.φ ++ [x])) := by
  have hx' : upd w.H dx (.own x) x = none := by rw [upd_ne (Ne.symm hn)]; exact hx
  have gn : w.G x = none := by
    cases e : w.G x with
    | none => rfl
    | some u => rw [k.sub x u e] at hx; cases hx
  have np : x ∉ w.φ := fun hm => by
    obtain ⟨o, e⟩ := k.at_ hm
    rw [e] at hx
    cases hx
  have sH : ∀ a u, w.H a = some u → upd (upd w.H dx (.own x)) x (.ins (T.cls c) dx []) a = some u := fun a u e => by
    rw [upd_ne (ne_of_none e hx), upd_ne (ne_of_none e hd)]
    exact e
  have ix : ∀ {i : Nat} {a : Addr}, (w.φ ++ [x])[i]? = some a → (w.φ[i]? = some a) ∨ (i = w.φ.length ∧ a = x) := fun {i a} e => by
    by_cases hi : i < w.φ.length
    · rw [List.getElem?_append_left hi] at e
      exact .inl e
    · rw [List.getElem?_append_right (Nat.le_of_not_lt hi)] at e
      have h0 : i - w.φ.length = 0 := by
        have := (List.getElem?_eq_some_iff.mp e).1
        simp at this
        omega
      rw [h0] at e
      simp at e
      exact .inr ⟨by omega, e.symm⟩
  have pr : Pre w.φ (w.φ ++ [x]) := Pre.app _ _
  refine ⟨⟨fun a u e => sH a u (k.sub a u e), by simp [k.len], fun i j a e1 e2 => ?_, fun i a e => ?_, fun i a c' e ec => ?_, k.gt, tabs_new (tabs_new k.tab hd) hx'⟩, ⟨Sub.refl _, pr, fun a u e _ _ => sH a u e, fun a hm => ?_, fun a u e => .inl e⟩⟩
  · rcases ix e1 with e1 | ⟨e1, q1⟩ <;> rcases ix e2 with e2 | ⟨e2, q2⟩
    · exact k.nd i j a e1 e2
    · exact absurd (q2 ▸ List.mem_of_getElem? e1) np
    · exact absurd (q1 ▸ List.mem_of_getElem? e2) np
    · omega
  · rcases ix e with e | ⟨_, q⟩
    · exact k.live i a e
    · rw [q]
      exact gn
  · rcases ix e with e | ⟨hi, q⟩
    · have hi : i < S.length := by
        rw [k.len]
        (exact (List.getElem?_eq_some_iff.mp e).1)
      rw [List.getElem?_append_left hi] at ec
      cases k.cell i a c' e ec with
      | lst h1 r => exact .lst (sH _ _ h1) (r.mono (Sub.refl _) pr)
      | ins h1 h2 r => exact .ins (sH _ _ h1) h2 (r.mono (Sub.refl _) pr)
    · rw [hi, ← k.len] at ec
      simp at ec
      subst ec
      rw [q]
      exact .ins (dx := dx) (gs := []) upd_same rfl .nil
  · have hm' : a ∈ w.φ ++ [x] := hm
    rcases List.mem_append.mp hm' with hm | hm
    · exact .inl hm
    · have e : a = x := by simpa using hm
      exact .inr (Wd.fr_of (e ▸ hx))
def mkD (Γ : Ct) (c : Nat) (xs : List D) (S : Store) : Ro D := (Γ.cf.call (Γ.cf.init c) (.obj S.length :: xs) (S ++ [.ins c []])).bind fun d S' => match d with
  | .non => .ok (.obj S.length) S'
  | _ => .stuck
theorem mk_snd {Γ : Ct} {c : Nat} {vs : List V} {xs : List D} {w : Wd} {S : Store} {Q : VK} (k : w.ok Γ.T S) (rs : RVs Γ.T w xs vs) (h : Post Γ.T (RV Γ.T) Γ.E w (mkD Γ c xs S) Q) : ∀ x dx, w.H x = none → w.H dx = none → dx ≠ x →
    spOf Γ.M Γ.k (Γ.cf.init c) (.ref x :: (vs ++ [])) (upd (upd w.H dx (.own x)) x (.ins (Γ.T.cls c) dx [])) (fun v H2 => v = .non ∧ Q (.ref x) H2) Γ.E := fun x dx hx hd hn => by
  obtain ⟨k1, hle⟩ := born_ins (c := c) k hx hd hn
  have hφ : (w.φ ++ [x])[S.length]? = some x := by rw [k.len]; simp
  refine ⟨_, _, .obj S.length :: xs, rfl, k1, .cons (.obj hφ) (by rw [List.append_nil]; exact Reps.le hle rs), ?_⟩
  have h1 := Post.shift k k1 hle h
  unfold mkD at h1
  refine Post.bind k1 h1 fun d S2 w2 v _ hle2 k2 rd h2 => ?_
  cases rd <;> first | exact h2.elim | skip
  exact ⟨rfl, post_val k2 (.obj (hle2.pre _ _ hφ)) h2⟩
theorem xe_mk0 {c : Nat} (F : FnGood Γ.M Γ.k (Γ.cf.init c) fd ps) (Mk : L2.Mk Γ.T.K (Γ.T.cls c) (Γ.M.fa (Γ.cf.init c))) (hg : Γ.sc.names.lookup x = some .globalImplicit) (hm : Γ.M.mg x = some (.ref (Γ.T.cls c))) (hd : (x == ("__debug__" : Str)) = false) :
    XE Γ (.Call (.Name x p) [] [] pos) fun _ S => mkD Γ c [] S :=
  ⟨tMake (Γ.T.cls c) (spOf Γ.M Γ.k (Γ.cf.init c)) [] Γ.E tNil, fun Y ok => pe_make0 Mk F.ok ok.room (glY ok hg) hm F.bd .nil ok.pass hd, fun w S e σ Q k he h => mk_snd k .nil h⟩
theorem cls_inv {S : Store} {x : D} {c : Nat} (h : isCls S x c = true) : ∃ n fs, x = .obj n ∧ S[n]? = some (.ins c fs) := by
  unfold isCls at h
  split at h
  · rename_i n
    split at h
    · rename_i c' fs e
      have : c' = c := by simpa using h
      subst this
      exact ⟨n, fs, rfl, e⟩
    · cases h
  · cases h
theorem names_none {T : Ks} {m : Str} (hm : ∀ f, T.fld f ≠ m) : ∀ {gs : List (Str × V)} {fs : List (Nat × D)}, gs.map (·.1) = fs.map (fun p => T.fld p.1) → gs.lookup m = none
  | [], _, _ => rfl
  | (g, v) :: gs, [], h => by simp at h
  | (g, v) :: gs, (f, d) :: fs, h => by
    (simp only [List.map_cons, List.cons.injEq] at h)
    rw [List.lookup_cons, h.1]
    have : (m == T.fld f) = false := beq_eq_false_iff_ne.mpr (Ne.symm (hm f))
    rw [this]
    exact names_none hm h.2
theorem cls_rep {T : Ks} {w : Wd} {S : Store} {x : D} {v : V} {c : Nat} (k : w.ok T S) (rx : RV T w x v) (h : isCls S x c = true) {m : Str} (hm : ∀ f, T.fld f ≠ m) : ∃ a dx gs, v = .ref a ∧ w.H a = some (.ins (T.cls c) dx gs) ∧ gs.lookup m = none := by
  obtain ⟨n, fs, rfl, hS⟩ := cls_inv h
  cases rx with
  | obj hn =>
    cases k.cell n _ _ hn hS with
    | ins h1 h2 r => exact ⟨_, _, _, rfl, h1, names_none hm h2⟩
def mcGo (Γ : Ct) (c f : Nat) (x : D) (S : Store) (r : Ro (List D)) : Ro D := if isCls S x c then r.bind fun xs S => if isCls S x c then Γ.cf.call f (x :: xs) S else .stuck else .stuck
theorem mc_snd {Γ : Ct} {c f : Nat} {m : Str} {to : TE} {ta : TA} {fo : FD} {ga : FL} (hm : ∀ f, Γ.T.fld f ≠ m) (so : Snd Γ.T Γ.E (RV Γ.T) to fo) (sa : Snd Γ.T Γ.E (RVs Γ.T) ta ga) :
    Snd Γ.T Γ.E (RV Γ.T) (tMeth (Γ.T.cls c) m (spOf Γ.M Γ.k f) [] Γ.E to ta) fun e S => (fo e S).bind fun x S => mcGo Γ c f x S (ga e S) :=
  Snd.seq (tb := fun x σ H1 Q => ∃ a dx fs, x = .ref a ∧ H1 a = some (.ins (Γ.T.cls c) dx fs) ∧ fs.lookup m = none ∧ ta σ H1 fun vs H2 => spOf Γ.M Γ.k f (x :: (vs ++ [])) H2 Q Γ.E) so fun w S e σ x v Q k he rx h => by
    unfold mcGo at h
    split at h
    · rename_i hc
      obtain ⟨a, dx, gs, rfl, h1, h2⟩ := cls_rep k rx hc hm
      refine ⟨a, dx, gs, rfl, h1, h2, sa w S e σ _ k he (Post.bind k h fun xs S1 w1 vs _ hle k1 rs h3 => ?_)⟩
      split at h3
      · exact ⟨w1, S1, x :: xs, rfl, k1, by rw [List.append_nil]; exact .cons (Rep.le hle rx) rs, h3⟩
      · exact h3.elim
    · exact h.elim
theorem meth_eval {env : PySem.Env} {o : Expr} {m : Str} {apos pos : Pos} {es : List Expr} (hb : baseOk o = true) (hl : (apos.endLine == pos.line) = true) (hs : es.all notStar = true) (hn : es.length < 20) :
    eval (.Call (.Attribute o m apos) es [] pos) env = (do
      let ov ← eval o env
      standAt apos.atName
      let (f, first) ← holding [ov] (getMethod ov m (do return (← importBound o env).getD true))
      callWith pos f first (backTo pos (starEach es env)) (backToKw pos (keywordEach [] env))) := by
  have hf : methodCallForm (es.length + ([] : List Keyword).length) (backTo pos (starEach es env)) (backToKw pos (keywordEach [] env)) = true := by
    unfold methodCallForm
    rw [show (backTo pos (starEach es env)).all (fun x => !x.1) = true from star_all _ hs]
    simp [backToKw, keywordEach]
    omega
  show (do
    let ov ← attributeBase o m env (eval o env)
    standAt apos.atName
    methodCall o m apos pos env ov (es.length + ([] : List Keyword).length) (backTo pos (starEach es env)) (backToKw pos (keywordEach [] env))) = _
  rw [base_ok hb]
  unfold methodCall
  rw [hf]
  unfold methodCallPos
  rw [hl]
  rfl
theorem xe_mc {y : Str} {p2 : Pos} {c : Nat} (F : FnGood Γ.M Γ.k f fd ps) (hC : Cls Γ.T.K (Γ.T.cls c)) (hM : Meth Γ.T.K (Γ.T.cls c) m (Γ.M.fa f)) (hm : ∀ f, Γ.T.fld f ≠ m) (ho : XE Γ (.Name y p2) fo) (ha : XA Γ (a :: es) ga) (hs : (a :: es).all notStar = true) (hl : (apos.endLine == pos.line) = true) (hn : es.length < 19) :
    XE Γ (.Call (.Attribute (.Name y p2) m apos) (a :: es) [] pos) fun e S => (fo e S).bind fun x S => mcGo Γ c f x S (ga e S) := by
  obtain ⟨to, po, so⟩ := ho
  obtain ⟨ta, pa, sa⟩ := ha
  have hs' := hs
  rw [List.all_cons, Bool.and_eq_true] at hs'
  exact ⟨tMeth (Γ.T.cls c) m (spOf Γ.M Γ.k f) [] Γ.E to ta, fun Y ok => pe_meth (po Y ok) hC hM F.ok ok.room0 F.bd .nil ok.pass (pa Y ok) (star_cons hs'.1 _) (star_plain _ hs'.2) (meth_eval rfl hl hs (by simp; omega)), mc_snd hm so sa⟩
theorem xe_mc0 {y : Str} {p2 : Pos} {c : Nat} (F : FnGood Γ.M Γ.k f fd ps) (hC : Cls Γ.T.K (Γ.T.cls c)) (hM : Meth Γ.T.K (Γ.T.cls c) m (Γ.M.fa f)) (hm : ∀ f, Γ.T.fld f ≠ m) (ho : XE Γ (.Name y p2) fo) (hl : (apos.endLine == pos.line) = true) :
    XE Γ (.Call (.Attribute (.Name y p2) m apos) [] [] pos) fun e S => (fo e S).bind fun x S => mcGo Γ c f x S (.ok [] S) := by
  obtain ⟨to, po, so⟩ := ho
  refine ⟨tMeth (Γ.T.cls c) m (spOf Γ.M Γ.k f) [] Γ.E to tNil, fun Y ok => pe_meth0 (po Y ok) hC hM F.ok ok.room0 F.bd .nil ok.pass (meth_eval rfl hl rfl (by decide)), ?_⟩
  exact mc_snd hm so (ga := fun _ S => .ok [] S) nil_snd
theorem fld_look {T : Ks} {w : Wd} (inj : ∀ f g, T.fld f = T.fld g → f = g) {f : Nat} {d : D} : ∀ {gs : List (Str × V)} {fs : List (Nat × D)}, gs.map (·.1) = fs.map (fun p => T.fld p.1) → Reps T.K T.W w.G w.φ (fs.map (·.2)) (gs.map (·.2)) →
    fs.lookup f = some d → ∃ v, gs.lookup (T.fld f) = some v ∧ RV T w d v
  | [], [], _, _, h => by cases h
  | (g, v) :: gs, [], h, _, _ => by simp at h
  | [], p :: fs, h, _, _ => by simp at h
  | (g, v) :: gs, (f', d') :: fs, h, r, hl => by
    (simp only [List.map_cons, List.cons.injEq] at h)
    cases r with
    | cons r1 r2 =>
    rw [List.lookup_cons] at hl ⊢
    by_cases e : f = f'
    · subst e
      rw [h.1]
      simp only [BEq.rfl, cond_true] at hl ⊢
      cases hl
      exact ⟨v, rfl, r1⟩
    · have e1 : (f == f') = false := beq_eq_false_iff_ne.mpr e
      have e2 : (T.fld f == g) = false := by rw [h.1]; exact beq_eq_false_iff_ne.mpr fun q => e (inj _ _ q)
      rw [e1] at hl
      rw [e2]
      exact fld_look inj h.2 r2 hl
theorem putF_rep {T : Ks} {w : Wd} (inj : ∀ f g, T.fld f = T.fld g → f = g) {f : Nat} {d : D} {v : V} (rd : RV T w d v) : ∀ {gs : List (Str × V)} {fs : List (Nat × D)}, gs.map (·.1) = fs.map (fun p => T.fld p.1) → Reps T.K T.W w.G w.φ (fs.map (·.2)) (gs.map (·.2)) →
    (L2.putF (T.fld f) v gs).map (·.1) = (Pv.putF f d fs).map (fun p => T.fld p.1) ∧ Reps T.K T.W w.G w.φ ((Pv.putF f d fs).map (·.2)) ((L2.putF (T.fld f) v gs).map (·.2))
  | [], [], _, _ => ⟨rfl, .cons rd .nil⟩
  | (g, u) :: gs, [], h, _ => by simp at h
  | [], p :: fs, h, _ => by simp at h
  | (g, u) :: gs, (f', d') :: fs, h, r => by
    (simp only [List.map_cons, List.cons.injEq] at h)
    cases r with
    | cons r1 r2 =>
    unfold L2.putF Pv.putF
    by_cases e : f' = f
    · subst e
      rw [if_pos rfl, if_pos h.1]
      exact ⟨by simp [h.1, h.2], .cons rd r2⟩
    · rw [if_neg e, if_neg (fun q => e (inj _ _ (h.1.symm.trans q)))]
      obtain ⟨h3, h4⟩ := putF_rep inj rd h.2 r2
      exact ⟨by simp [h3, h.1], .cons r1 h4⟩
theorem fldD_inv {S : Store} {x d : D} {f : Nat} (h : fldD S x f = some d) : ∃ n c fs, x = .obj n ∧ S[n]? = some (.ins c fs) ∧ fs.lookup f = some d := by
  unfold fldD at h
  split at h
  · split at h
    · exact ⟨_, _, _, rfl, by assumption, h⟩
    · cases h
  · cases h
theorem xe_fld (inj : ∀ f g, Γ.T.fld f = Γ.T.fld g → f = g) (hC : ∀ c, Cls Γ.T.K (Γ.T.cls c)) (hA : ∀ c, NoAttr Γ.T.K (Γ.T.cls c) (Γ.T.fld f)) (ho : XE Γ o fo) (hb : baseOk o = true) :
    XE Γ (.Attribute o (Γ.T.fld f) pos) fun e S => (fo e S).bind fun x S => Ro.opt (fldD S x f) S := by
  obtain ⟨to, po, so⟩ := ho
  refine ⟨tFld Γ.T.K to (Γ.T.fld f), fun Y ok => pe_fld (po Y ok) (base_ok hb _ _), ?_⟩
  refine Snd.one (r := fun x H1 Q => ∃ a C dx fs v, x = .ref a ∧ H1 a = some (.ins C dx fs) ∧ Cls Γ.T.K C ∧ NoAttr Γ.T.K C (Γ.T.fld f) ∧ fs.lookup (Γ.T.fld f) = some v ∧ Q v H1) so fun w S x v Q k rx h => ?_
  obtain ⟨d, e, h'⟩ := post_opt h
  obtain ⟨n, c, fs, rfl, hS, hl⟩ := fldD_inv e
  cases rx with
  | obj hn =>
    cases k.cell n _ _ hn hS with
    | ins h1 h2 r =>
      obtain ⟨u, h3, ru⟩ := fld_look inj h2 r hl
      exact ⟨_, _, _, _, u, rfl, h1, hC c, hA c, h3, post_val k ru h'⟩
end
end Pv
namespace Pv
open PySem L2 PyProof.Rows
/-- what enumerate yields: the items that sq tells, counted from c -/
def IteA (sq : Hp → List V → Prop) (c : Int) : It :=
  ⟨fun i H => ∃ (xs : List V) (x : V), sq H xs ∧ xs[i]? = some x, fun i H v H' => ∃ T x, v = .ref T ∧ H T = none ∧ H' = upd H T (.tup [.int (c + (i : Nat)), x]) ∧ ∀ xs, sq H xs → xs[i]? = some x, fun i H => ∃ xs : List V, sq H xs ∧ xs.length ≤ i⟩
set_option maxHeartbeats 1250000 in
theorem meets_enumerate_newB1 {v : Value} {o : Obj} {H : Heap → Prop} (B : Begins v o H) :
    Meets (Builtin.«enumerate.__new__» ⟨[.type "enumerate", v], []⟩) (fun _ R s => H s.heap ∧
      R (.ok (.ret (.ref (s.heap.push o).objs.size))) { s with heap := (s.heap.push o).push { cls := .type "enumerate", data := .fields #[.none, .bool false, .ref s.heap.objs.size, rawInt 0, .none, .none] } }) :=
  .of_wp fun prog
        w A R s h => by
    (obtain ⟨hp, g, d, tk, os⟩ := s; obtain ⟨h1, h⟩ := h)
    have hsub := sub_enumerate
    have q1 : ∀ {A' : Around} {E : Value → Shared → Prop} {Q : Value → Shared → Prop}, Q (.ref
          hp.objs.size) ⟨hp.push o, g, d, tk, os⟩ → wpAny (model prog w) A' (pyIter v) Q E ⟨hp, g, d, tk, os⟩ :=
      fun q => B.iter prog w _ _
            ⟨hp, g, d, tk, os⟩ _ h1 q
    wp_walk using q1
    (refine wpAny_stack_any fun st => wpAny_pure ?_)
    split
    · rename_i c _ _ _ _ _
      (cases (c == Value.type "enumerate"))
      · wp_walk using q1
        exact ⟨_, rfl, h⟩
      · wp_walk using q1
        exact ⟨_, rfl, h⟩
    · wp_walk using q1
      exact ⟨_, rfl, h⟩
theorem enum_begins1 {prog : Program} {w : World} {A : Around} {E : Value → Shared → Prop} {s : Shared} {v : Value} {o : Obj} {H : Heap → Prop} {Q : Value → Shared → Prop} (B : Begins v o H) (h1 : H s.heap)
    (h : ∀ h', IsEnum h' (s.heap.objs.size + 1) s.heap.objs.size 0 .none → h'.get? s.heap.objs.size = some o → h'.objs.size = s.heap.objs.size + 2 →
      (∀ b o, s.heap.get? b = some o → h'.get? b = some o) → Q
            (.ref (s.heap.objs.size + 1)) { s with heap := h' }) :
    wpAny (model prog w) A (call (.type "enumerate") [v]) Q E s := by
  refine callType_new F.called_enumerate (by decide) (F.typeCall_enumerate_1 _)
        (F.newCall_enumerate_1 _) (fun obj => F.args_object_init_2 obj _) F.entry_enumerate_new
    (meets_enumerate_newB1 B) ⟨h1, ?_⟩
  (have hz : (s.heap.push o).objs.size = s.heap.objs.size + 1 := Heap.size_push ..)
  show _ ∧ _
  rw [hz]
  have he : IsEnum ((s.heap.push o).push { cls := .type "enumerate", data := .fields #[.none, .bool false, .ref s.heap.objs.size, rawInt 0, .none, .none] }) (s.heap.objs.size + 1) s.heap.objs.size 0 .none := by
    have := Heap.get?_push_size (s.heap.push o) (o := { cls := .type "enumerate", data := .fields #[.none, .bool false, .ref s.heap.objs.size, rawInt 0, .none, .none] }) rfl
    rw [hz] at this; exact this
  (refine ⟨⟨_, he, rfl⟩, h _ he (Heap.get?_push_of_some _ (Heap.get?_push_size _ B.free)) (by rw [Heap.size_push, hz]) fun b o x => Heap.get?_push_of_some _ (Heap.get?_push_of_some _ x)⟩)
theorem wpAny_pyNext_enum_endL {prog : Program} {w : World} {A : Around} {E : Value → Shared → Prop} {s : Shared} {e it l : Addr} {i : Nat} {c : Int} {items : Array Value} {old : Value} {Q : Option Value → Shared → Prop} (hh : A.handled = none)
    (he : IsEnum s.heap e it c old) (hit : s.heap.IsListIter it l i) (hl : s.heap.IsList l items) (hx : items[i]? = none)
    (hQ : ∀ h', Heap.ExtBut it s.heap h' → Q none { s with heap :=
          h' }) : wpAny (model prog w) A (pyNext (.ref e)) Q E s := by
  (have hT : s.TypeIs (.ref e) "enumerate" := ⟨_, he, rfl⟩)
  unfold pyNext
  refine wpAny_bind (wpAny_attempt (wpAny_callSpecial?_slot
        (name := Str.ofString "__next__") hT F.slot_enumerate_next
    (wpAny_call_entry F.slot_enumerate_next hT
          F.entry_enumerate_next ?_ (F.args_enumerate_next_1 _))))
  (show wpAny _ _ (field (.ref e) 2 >>= _) _ _ _)
  (refine wpAny_bind (wpAny_field he rfl (x := .ref it) rfl ?_))
  (refine wpAny_bind (wpAny_nextOf_list_end hh hit hl hx fun h' x he' hx' => ?_))
  obtain ⟨o, ho, hc⟩ := hx'
  (refine wpAny_bind (wpAny_isInstance (T := "StopIteration") (b := true) ⟨o, ho, hc⟩ isSubtype_stop ?_))
  exact wpAny_pure (hQ _ he')
theorem wpAny_pyNext_enum_endT {prog : Program} {w : World} {A : Around} {E : Value → Shared → Prop} {s : Shared} {e it l : Addr} {i : Nat} {c : Int} {items : Array Value} {old : Value} {Q : Option Value → Shared → Prop} (hh : A.handled = none)
    (he : IsEnum s.heap e it c old) (hit : s.heap.IsTupleIter it l i) (hl : s.heap.IsTuple l items) (hx : items[i]? = none)
    (hQ : ∀ h', Heap.ExtBut it s.heap h' → Q none { s with heap :=
          h' }) : wpAny (model prog w) A (pyNext (.ref e)) Q E s := by
  (have hT : s.TypeIs (.ref e) "enumerate" := ⟨_, he, rfl⟩)
  unfold pyNext
  refine wpAny_bind (wpAny_attempt (wpAny_callSpecial?_slot
        (name := Str.ofString "__next__") hT F.slot_enumerate_next
    (wpAny_call_entry F.slot_enumerate_next hT
          F.entry_enumerate_next ?_ (F.args_enumerate_next_1 _))))
  (show wpAny _ _ (field (.ref e) 2 >>= _) _ _ _)
  (refine wpAny_bind (wpAny_field he rfl (x := .ref it) rfl ?_))
  refine wpAny_bind (wpAny_nextOf_tuple_end hh hit hl hx fun h' x he' hx' => ?_)
  obtain ⟨o, ho, hc⟩ := hx'
  (refine wpAny_bind (wpAny_isInstance (T := "StopIteration") (b := true) ⟨o, ho, hc⟩ isSubtype_stop ?_))
  exact wpAny_pure (hQ _ he')
theorem turn_enumL {P : Program} {w : World} {K : PySem.W.Frag} {elts : List Expr} {kk : Nat} {tpos : Pos} (a e it : Addr) (c : Int) :
    Turn P w K (.Tuple elts kk tpos) (IteA (fun H xs => SqL K H a xs) c) [e, it] e (fun i h => (∃ old, IsEnum h e it (c + ((i : Nat) : Int)) old) ∧ h.IsListIter it a i ∧ e ≠ it ∧ a ≠ it) where
  mem := by simp
  obj := fun i h st b hb => by
    (obtain ⟨⟨old, he⟩, ⟨o, ho, hc, hd⟩, _⟩ := st)
    (have e' : b = e ∨ b = it := by simpa using hb)
    rcases e' with z | z
    · (rw [z]; exact ⟨_, he, fun v q => nomatch q⟩)
    · (rw [z]; exact ⟨o, ho, fun v q => by rw [hd] at q; cases q⟩)
  keep := fun i h h' st k => let ⟨⟨old, he⟩, hi, hne⟩ := st; ⟨⟨old,
        k e (by simp) _ he⟩, hi.at fun o q => k it (by simp) o q, hne⟩
  item := by
    (intro X hP hw hK hc i pins s σ H E I hf st hg)
    subst hP hw hK
    obtain ⟨⟨old, he⟩, hit, hne, hna⟩ := st
    obtain ⟨xs, x, hq, hx⟩ := hg
    (obtain ⟨its, rv, p, hz⟩ := I.list hq)
    (obtain ⟨u, hu, ru⟩ := rv.get hx)
    (have hel : e < s.heap.objs.size := Heap.lt_size he)
    (have hil : it < s.heap.objs.size := by obtain ⟨_, q, _⟩ := hit; exact Heap.lt_size q)
    have D := Draws.list (prog := X.prog) (w := X.w) (A := X.A.in1) (show X.A.in1.handled = none from I.ok.hd hc) it a hna its.toArray
    have hae : e ∉ [it, a] := fun hm => by
      have hm' : e = it ∨ e = a := by simpa using hm
      rcases hm' with q | q
      · exact hne q
      · obtain ⟨oa, hoa, hca, _⟩ := PlainL.isList p
        rw [← q, he] at hoa
        cases hoa
        exact absurd (show Value.type "enumerate" = Value.type "list" from hca) (by decide)
    refine wpAny_pyNext_enum_itemC D he (i := i) ⟨hit, PlainL.isList p⟩ (by rw [List.size_toArray]; exact (List.getElem?_eq_some_iff.mp hu).1) hne hae fun u' h' tk hu' ho hit' hT hsz hk => ?_
    have eu : u' = u := by
      have q : its.toArray[i]? = some u' := hu'
      rw [List.getElem?_toArray, hu] at q
      (exact (Option.some.inj q).symm)
    subst eu
    refine ⟨_, rfl, wpAny_letOwnedTupleGo_enum (s := { s with heap := h', toks := tk + 1 }) ho fun h'' he' sb => ?_⟩
    have hT2 : h''.get? s.heap.objs.size = some { cls := .type "tuple", data := .seq #[.int (c + i) tk, u'] } := (sb.2 _ (Nat.ne_of_gt hel)).trans hT
    have new : ObjOk X.prog X.w (upd H s.heap.objs.size (.tup [.int (c + (i : Nat)), x])) h'' s.heap.objs.size (.tup [.int (c + (i : Nat)), x]) :=
      ⟨by show 2 ≤ sizeLine; decide, [.int (c + i) tk, u'], .cons ⟨_, rfl⟩ (.cons ru .nil), ⟨_, hT2, rfl, _, rfl⟩⟩
    have I1 : Inv X pins σ (upd H s.heap.objs.size (.tup [.int (c + (i : Nat)), x])) { s with heap := h'', toks := tk + 1 } :=
      I.turnedNew (ch := [e, it]) (fun b ob hb q => (sb.2 b (fun z => hb (by simp [z]))).trans
            (hk b ob (fun z => hb (by simp [z])) (fun z => hb (by simp [z])) q)) hf (Nat.le_refl _) new
    refine ⟨.ref s.heap.objs.size, _, I1, rfl, ⟨_, x, rfl, I.hok.fresh (Nat.le_refl _), rfl, fun ys hy => by rw [I.list_inj hy hq]; exact hx⟩, ⟨⟨u', ?_⟩, hit'.1.at fun o q => (sb.2 it (Ne.symm hne)).trans q, hne, hna⟩, fun b hb => ?_⟩
    · have e1 : c + ((i + 1 : Nat) : Int) = c + (i : Int) + 1 := by omega
      rw [e1]; exact he'
    · have hb' : b <
          s.heap.objs.size := by
        (have e' : b = e ∨ b = it := by simpa using hb)
        rcases e' with z | z
        · rw [z]; exact hel
        · rw [z]; exact hil
      (rw [upd_ne (Nat.ne_of_lt hb')])
      exact (hf b hb).1
  done := by
    (intro X hP hw hK hc i pins s σ H E I hf st hg)
    subst hP hw hK
    obtain ⟨⟨old, he⟩, hit, hne, hna⟩ := st
    obtain ⟨xs, hq, hx⟩ := hg
    (obtain ⟨its, rv, p, hz⟩ := I.list hq)
    have hl := rv.length
    exact by
      (obtain ⟨f0, f1, f2, f3, f4, f5⟩ := hf it (by simp))
      exact wpAny_pyNext_enum_endL (I.ok.hd hc) he hit (PlainL.isList p) (by simp; omega) fun h' eb => ⟨rfl, I.turned (t' := s.toks) (fun b o hb q => eb b o hb q) f0 f1 f3 f4 f5⟩
  self := fun A i s Q E st h => let ⟨⟨_,
        he⟩, _⟩ := st; wpAny_pyIter_enum he h
theorem turn_enumT {P : Program} {w : World} {K : PySem.W.Frag} {elts : List Expr} {kk : Nat} {tpos : Pos} (a e it : Addr) (c : Int) :
    Turn P w K (.Tuple elts kk tpos) (IteA (fun H xs => SqT K H a xs) c) [e, it] e (fun i h => (∃ old, IsEnum h e it (c + ((i : Nat) : Int)) old) ∧ h.IsTupleIter it a i ∧ e ≠ it ∧ a ≠ it) where
  mem := by simp
  obj := fun i h st b hb => by
    (obtain ⟨⟨old, he⟩, ⟨o, ho, hc, hd⟩, _⟩ := st)
    (have e' : b = e ∨ b = it := by simpa using hb)
    rcases e' with z | z
    · (rw [z]; exact ⟨_, he, fun v q => nomatch q⟩)
    · (rw [z]; exact ⟨o, ho, fun v q => by rw [hd] at q; cases q⟩)
  keep := fun i h h' st k => let ⟨⟨old, he⟩, hi, hne⟩ := st; ⟨⟨old,
        k e (by simp) _ he⟩, hi.at fun o q => k it (by simp) o q, hne⟩
  item := by
    (intro X hP hw hK hc i pins s σ H E I hf st hg)
    subst hP hw hK
    obtain ⟨⟨old, he⟩, hit, hne, hna⟩ := st
    obtain ⟨xs, x, hq, hx⟩ := hg
    (obtain ⟨its, rv, p, hz⟩ := I.tuple hq)
    (obtain ⟨u, hu, ru⟩ := rv.get hx)
    (have hel : e < s.heap.objs.size := Heap.lt_size he)
    (have hil : it < s.heap.objs.size := by obtain ⟨_, q, _⟩ := hit; exact Heap.lt_size q)
    have D := Draws.tuple (prog := X.prog) (w := X.w) (A := X.A.in1) (show X.A.in1.handled = none from I.ok.hd hc) it a hna its.toArray
    have hae : e ∉ [it, a] := fun hm => by
      have hm' : e = it ∨ e = a := by simpa using hm
      rcases hm' with q | q
      · exact hne q
      · obtain ⟨oa, hoa, hca, _⟩ := id p
        rw [← q, he] at hoa
        cases hoa
        exact absurd (show Value.type "enumerate" = Value.type "tuple" from hca) (by decide)
    refine wpAny_pyNext_enum_itemC D he (i := i) ⟨hit, id p⟩ (by rw [List.size_toArray]; exact (List.getElem?_eq_some_iff.mp hu).1) hne hae fun u' h' tk hu' ho hit' hT hsz hk => ?_
    have eu : u' = u := by
      have q : its.toArray[i]? = some u' := hu'
      rw [List.getElem?_toArray, hu] at q
      (exact (Option.some.inj q).symm)
    subst eu
    refine ⟨_, rfl, wpAny_letOwnedTupleGo_enum (s := { s with heap := h', toks := tk + 1 }) ho fun h'' he' sb => ?_⟩
    have hT2 : h''.get? s.heap.objs.size = some { cls := .type "tuple", data := .seq #[.int (c + i) tk, u'] } := (sb.2 _ (Nat.ne_of_gt hel)).trans hT
    have new : ObjOk X.prog X.w (upd H s.heap.objs.size (.tup [.int (c + (i : Nat)), x])) h'' s.heap.objs.size (.tup [.int (c + (i : Nat)), x]) :=
      ⟨by show 2 ≤ sizeLine; decide, [.int (c + i) tk, u'], .cons ⟨_, rfl⟩ (.cons ru .nil), ⟨_, hT2, rfl, _, rfl⟩⟩
    have I1 : Inv X pins σ (upd H s.heap.objs.size (.tup [.int (c + (i : Nat)), x])) { s with heap := h'', toks := tk + 1 } :=
      I.turnedNew (ch := [e, it]) (fun b ob hb q => (sb.2 b (fun z => hb (by simp [z]))).trans
            (hk b ob (fun z => hb (by simp [z])) (fun z => hb (by simp [z])) q)) hf (Nat.le_refl _) new
    refine ⟨.ref s.heap.objs.size, _, I1, rfl, ⟨_, x, rfl, I.hok.fresh (Nat.le_refl _), rfl, fun ys hy => by rw [I.tuple_inj hy hq]; exact hx⟩, ⟨⟨u', ?_⟩, hit'.1.at fun o q => (sb.2 it (Ne.symm hne)).trans q, hne, hna⟩, fun b hb => ?_⟩
    · have e1 : c + ((i + 1 : Nat) : Int) = c + (i : Int) + 1 := by omega
      rw [e1]; exact he'
    · have hb' : b <
          s.heap.objs.size := by
        (have e' : b = e ∨ b = it := by simpa using hb)
        rcases e' with z | z
        · rw [z]; exact hel
        · rw [z]; exact hil
      (rw [upd_ne (Nat.ne_of_lt hb')])
      exact (hf b hb).1
  done := by
    (intro X hP hw hK hc i pins s σ H E I hf st hg)
    subst hP hw hK
    obtain ⟨⟨old, he⟩, hit, hne, hna⟩ := st
    obtain ⟨xs, hq, hx⟩ := hg
    (obtain ⟨its, rv, p, hz⟩ := I.tuple hq)
    have hl := rv.length
    exact by
      (obtain ⟨f0, f1, f2, f3, f4, f5⟩ := hf it (by simp))
      exact wpAny_pyNext_enum_endT (I.ok.hd hc) he hit (p) (by simp; omega) fun h' eb => ⟨rfl, I.turned (t' := s.toks) (fun b o hb q => eb b o hb q) f0 f1 f3 f4 f5⟩
  self := fun A i s Q E st h => let ⟨⟨_,
        he⟩, _⟩ := st; wpAny_pyIter_enum he h
/-- enumerate of a list or a tuple, counted from c -/
def iEnumA (K : PySem.W.Frag) (c : Int) (te : TE) : TI := fun σ H R => te σ H fun x H1 => ∃ y, [x] = [y] ∧ ∃ a xs, y = .ref a ∧ ((SqL K H1 a xs ∧ R (IteA (fun H xs => SqL K H a xs) c) H1) ∨ (SqT K H1 a xs ∧ R (IteA (fun H xs => SqT K H a xs) c) H1))
def iEnumK (K : PySem.W.Frag) (c : Int) (te : TE) : TI := fun σ H R => te σ H fun x H1 => ∃ y, [x, .int c] = [y, .int c] ∧ ∃ a xs, y = .ref a ∧ ((SqL K H1 a xs ∧ R (IteA (fun H xs => SqL K H a xs) c) H1) ∨ (SqT K H1 a xs ∧ R (IteA (fun H xs => SqT K H a xs) c) H1))
section
variable {X : Cx} {tg : Expr} {pins : List (Addr × Obj)} {σ : L2.St} {H : Hp} {s : Shared} {R : It → Hp → Prop}
theorem enum_it {c : Int} {h' : Heap} {J : It} {tn : Nat → Heap → Prop} (I : L2.Inv X pins σ H s) (he : IsEnum h' (s.heap.objs.size + 1) s.heap.objs.size c .none) (hk : ∀ b o, s.heap.get? b = some o → h'.get? b = some o)
    (T : Turn X.prog X.w X.K tg J [s.heap.objs.size + 1, s.heap.objs.size] (s.heap.objs.size + 1) tn) (h0 : tn 0 h') (q : R J H) : wpAny (model X.prog X.w) X.A (pyIter (.ref (s.heap.objs.size + 1))) (PIE X pins σ tg R) X.xe { s with heap := h' } := by
  (refine wpAny_pyIter_enum he ?_)
  have I2 : L2.Inv X pins σ H { s with heap := h' } := I.kept (t' := s.toks) hk
  refine ⟨s.heap.objs.size + 1, [s.heap.objs.size + 1, s.heap.objs.size], _, _, H, rfl, I2, T, h0, fun b hb => ?_, q⟩
  have e' : b = s.heap.objs.size + 1 ∨ b = s.heap.objs.size := by simpa using hb
  have hle : s.heap.objs.size ≤ b := by
    rcases e' with z | z
    · (rw [z]; exact Nat.le_add_right _ _)
    · rw [z]; exact Nat.le_refl _
  exact I.fpOk hle (I.hok.fresh hle)
end
theorem pi_enumA {X : Cx} {e : Expr} {te : TE} {p pos tpos : Pos} {elts : List Expr} {kk : Nat} (hg : Gl X "enumerate") (hm : X.mg "enumerate" = none) (ha : PE X e te) (hs : notStar e = true) :
    PI X (.Tuple elts kk tpos) (.Call (.Name "enumerate" p) [e] [] pos) (iEnumA X.K 0 te) := by
  (refine ⟨fun pins s σ H R I h => ?_⟩)
  have hs1 : starEach [e] X.env = [(false, eval e X.env)] := star_cons (es := []) hs X.env
  refine Call_ (ld_blt I hg hm boot_enumerate (PyProof.Rows.callWith_type1 (thn ((pa_cons ha pa_nil (star_cons hs X.env)).run pos pins s σ H (fun vs H1 => ∃ x, vs = [x] ∧ ∃ a xs, x = .ref a ∧ ((SqL X.K H1 a xs ∧ R (IteA (fun H xs => SqL X.K H a xs) 0) H1) ∨ (SqT X.K H1 a xs ∧ R (IteA (fun H xs => SqT X.K H a xs) 0) H1))) I h) fun us s1 ⟨vs, H1, I1, r1, q1⟩ => ?_) hs1 rfl))
  · obtain ⟨x, ex, a, xs, ex2, q1⟩ := q1
    subst ex ex2
    cases r1 with
    | cons r rr =>
      cases rr
      cases r
      rcases q1 with ⟨hq, q⟩ | ⟨hq, q⟩
      · (obtain ⟨its, rv, p', hz⟩ := I1.list hq)
        exact enum_begins1 (begins_list a its.toArray) p'.isList fun h' he hit hsz hk => enum_it I1 he hk (turn_enumL a _ _ 0) ⟨⟨.none, by simpa using he⟩, ⟨_, hit, rfl, rfl⟩, Nat.succ_ne_self _, Nat.ne_of_lt (by obtain ⟨o, ho, _⟩ := p'.isList; exact Heap.lt_size ho)⟩ q
      · (obtain ⟨its, rv, p', hz⟩ := I1.tuple hq)
        exact enum_begins1 (begins_tuple a its.toArray) p' fun h' he hit hsz hk => enum_it I1 he hk (turn_enumT a _ _ 0) ⟨⟨.none, by simpa using he⟩, ⟨_, hit, rfl, rfl⟩, Nat.succ_ne_self _, Nat.ne_of_lt (by obtain ⟨o, ho, _⟩ := p'; exact Heap.lt_size ho)⟩ q
theorem pi_enumK {X : Cx} {e : Expr} {te : TE} {p pos tpos cp : Pos} {elts : List Expr} {kk j : Nat} {c : Int} (hg : Gl X "enumerate") (hm : X.mg "enumerate" = none) (ha : PE X e te) (hs : notStar e = true) (h1 : -(2 ^ 63) ≤ c) (h2 : c < 2 ^ 63) :
    PI X (.Tuple elts kk tpos) (.Call (.Name "enumerate" p) [e, .Constant (.int c) j cp] [] pos) (iEnumK X.K c te) := by
  (refine ⟨fun pins s σ H R I h => ?_⟩)
  refine Call_ (ld_blt I hg hm boot_enumerate (PyProof.Rows.callWith_type1 (thn ((pa_cons ha (pa_cons pe_int pa_nil (star_cons rfl X.env)) (star_cons hs X.env)).run pos pins s σ H (fun vs H1 => ∃ x, vs = [x, .int c] ∧ ∃ a xs, x = .ref a ∧ ((SqL X.K H1 a xs ∧ R (IteA (fun H xs => SqL X.K H a xs) c) H1) ∨ (SqT X.K H1 a xs ∧ R (IteA (fun H xs => SqT X.K H a xs) c) H1))) I h) fun us s1 ⟨vs, H1, I1, r1, q1⟩ => ?_) (star_cons hs X.env) (star_plain X.env rfl)))
  · obtain ⟨x, ex, a, xs, ex2, q1⟩ := q1
    subst ex ex2
    cases r1 with
    | cons r rr =>
      cases rr with
      | cons r' rr =>
      cases rr
      cases r
      obtain ⟨t, rfl⟩ := r'
      rcases q1 with ⟨hq, q⟩ | ⟨hq, q⟩
      · (obtain ⟨its, rv, p', hz⟩ := I1.list hq)
        exact enum_begins (begins_list a its.toArray) p'.isList h1 h2 fun h' he hit hsz hk => enum_it I1 he hk (turn_enumL a _ _ c) ⟨⟨.none, by simpa using he⟩, ⟨_, hit, rfl, rfl⟩, Nat.succ_ne_self _, Nat.ne_of_lt (by obtain ⟨o, ho, _⟩ := p'.isList; exact Heap.lt_size ho)⟩ q
      · (obtain ⟨its, rv, p', hz⟩ := I1.tuple hq)
        exact enum_begins (begins_tuple a its.toArray) p' h1 h2 fun h' he hit hsz hk => enum_it I1 he hk (turn_enumT a _ _ c) ⟨⟨.none, by simpa using he⟩, ⟨_, hit, rfl, rfl⟩, Nat.succ_ne_self _, Nat.ne_of_lt (by obtain ⟨o, ho, _⟩ := p'; exact Heap.lt_size ho)⟩ q
end Pv
namespace Pv
open PySem L2 RZ
/-- at any later state the iterator gives the items xs, as long as what it walks stands still -/
def ItR (T : Ks) (w : Wd) (p : List D × List (Nat × List D)) (J : It) : Prop :=
  ∀ (w2 : Wd) (S2 : Store) (i : Nat), w.le w2 → w2.ok T S2 → still p.2 S2 = true →
    (∀ x, p.1[i]? = some x → J.go i w2.H ∧ ∀ v H', J.yld i w2.H v H' → ∃ w3, w2.le w3 ∧ w3.ok T S2 ∧ w3.H = H' ∧ RV T w3 x v) ∧ (p.1.length ≤ i → J.stop i w2.H)
abbrev FI := Pv.Env → Store → Ro (List D × List (Nat × List D))
def XI (Γ : Ct) (tg e : Expr) (f : FI) : Prop := ∃ t, (∀ Y, Γ.Ok Y → PI (Γ.cx Y) tg e t) ∧ Snd Γ.T Γ.E (ItR Γ.T) t f ∧ ∀ v S p S', f v S = .ok p S' → still p.2 S' = true
theorem XI.to {Γ : Ct} {tg e : Expr} {f g : FI} (h : XI Γ tg e f) (q : ∀ v S, g v S = f v S) : XI Γ tg e g := by
  have : g = f := funext fun v => funext fun S => q v S
  rw [this]
  exact h
def Watched (S : Store) (x : D) (xs : List D) : Prop := x.items S = some xs ∨ x = .tup xs
theorem still_watch {S : Store} {x : D} {xs : List D} (h : Watched S x xs) : still (x.watch xs) S = true := by
  rcases h with h | rfl
  · cases x with
    | obj n =>
      have h' : (match S[n]? with | some (.lst xs) => some xs | _ => none) = some xs := h
      cases z : S[n]? with
      | none => rw [z] at h'; cases h'
      | some c =>
        rw [z] at h'
        cases c with
        | lst ys =>
          cases h'
          show ([(n, xs)] : List _).all _ = true
          simp [z, D.beqs_refl]
        | ins => cases h'
    | _ => rfl
  · rfl
theorem still_nil (S : Store) : still [] S = true := rfl
theorem still_app {a b : List (Nat × List D)} {S : Store} : still (a ++ b) S = (still a S && still b S) := List.all_append
section
variable {T : Ks} {w w2 : Wd} {S S2 : Store} {x : D} {v : V} {xs : List D}
/-- a list that stands still, at a later state -/
theorem later_lst (k : w.ok T S) (rx : RV T w x v) (h : x.items S = some xs) (hle : w.le w2) (k2 : w2.ok T S2) (st : still (x.watch xs) S2 = true) : ∃ a vs, v = .ref a ∧ SqL T.K w2.H a vs ∧ RVs T w2 xs vs := by
  have : x.items S2 = some xs := by
    cases x with
    | obj n =>
      have st' : ([(n, xs)] : List (Nat × List D)).all (fun p => match S2[p.1]? with | some (.lst ys) => D.beqs p.2 ys | _ => false) = true := st
      simp only [List.all_cons, List.all_nil, Bool.and_true] at st'
      show (match S2[n]? with | some (.lst xs) => some xs | _ => none) = some xs
      cases z : S2[n]? with
      | none => rw [z] at st'; cases st'
      | some c =>
        rw [z] at st'
        cases c with
        | lst ys => rw [D.beqs_eq _ _ st']
        | ins => cases st'
    | lst ys => exact h
    | _ => cases h
  obtain ⟨a, vs, e, ha, rs⟩ := items_at k2 (Rep.le hle rx) this
  exact ⟨a, vs, e, sql_of ha, rs⟩
theorem sql_inj_of {a : Addr} {vs : List V} {i : Nat} {d : D} (rs : RVs T w2 xs vs) (h : xs[i]? = some d) {u : V} (hu : ∀ ys, SqL T.K w2.H a ys → ys[i]? = some u) (hs : SqL T.K w2.H a vs) : RV T w2 d u := by
  obtain ⟨u', h1, h2⟩ := rs.get h
  rw [hu vs hs] at h1
  cases h1
  exact h2
theorem sqt_inj_of {a : Addr} {vs : List V} {i : Nat} {d : D} (rs : RVs T w2 xs vs) (h : xs[i]? = some d) {u : V} (hu : ∀ ys, SqT T.K w2.H a ys → ys[i]? = some u) (hs : SqT T.K w2.H a vs) : RV T w2 d u := by
  obtain ⟨u', h1, h2⟩ := rs.get h
  rw [hu vs hs] at h1
  cases h1
  exact h2
theorem itr_lst (k : w.ok T S) (rx : RV T w x v) (h : x.items S = some xs) {a : Addr} (ha : v = .ref a) : ItR T w (xs, x.watch xs) (Itl T.K a) := by
  intro w2 S2 i hle k2 st
  obtain ⟨b, vs, e, hs, rs⟩ := later_lst k rx h hle k2 st
  rw [ha] at e
  cases e
  refine ⟨fun d hd => ?_, fun hl => ⟨vs, hs, by rw [← rs.length]; exact hl⟩⟩
  obtain ⟨u, hu, ru⟩ := rs.get hd
  exact ⟨⟨vs, u, hs, hu⟩, fun u' H' ⟨e, q⟩ => ⟨w2, .refl _, k2, e.symm, sql_inj_of rs hd q hs⟩⟩
theorem itr_tup {a : Addr} {vs : List V} (g : SqT T.K w.G a vs) (rs : RVs T w xs vs) : ItR T w (xs, []) (Itt T.K a) := by
  intro w2 S2 i hle k2 st
  have hs : SqT T.K w2.H a vs := sub_t k2.sub (sub_t hle.sub g)
  have rs2 : RVs T w2 xs vs := Reps.le hle rs
  refine ⟨fun d hd => ?_, fun hl => ⟨vs, hs, by rw [← rs.length]; exact hl⟩⟩
  obtain ⟨u, hu, ru⟩ := rs2.get hd
  exact ⟨⟨vs, u, hs, hu⟩, fun u' H' ⟨e, q⟩ => ⟨w2, .refl _, k2, e.symm, sqt_inj_of rs2 hd q hs⟩⟩
theorem itr_str (s : List Nat) : ItR T w (s.map fun c => .str [c], []) (Its (sv s)) := by
  intro w2 S2 i hle k2 st
  have sz : (sv s).cps.size = s.length := sv_len s
  have at_ : (sv s).cps[i]? = s[i]? := by
    show s.toArray[i]? = s[i]?
    simp
  refine ⟨fun d hd => ?_, fun hl => ?_⟩
  · have hd' : (s.map fun c => D.str [c])[i]? = some d := hd
    rw [List.getElem?_map] at hd'
    obtain ⟨c, hc, e⟩ := Option.map_eq_some_iff.mp hd'
    have hc' : (sv s).cps[i]? = some c := at_.trans hc
    subst e
    refine ⟨?_, fun u' H' q => ?_⟩
    · show i < (sv s).cps.size
      rw [sz]
      exact (List.getElem?_eq_some_iff.mp hc).1
    · obtain ⟨e, c', h1, h2⟩ := q
      rw [hc'] at h1
      cases h1
      subst h2
      exact ⟨w2, .refl _, k2, e.symm, .str [c]⟩
  · show (sv s).cps.size ≤ i
    rw [sz]
    have hl' : (s.map fun c => D.str [c]).length ≤ i := hl
    simpa using hl'
/-- a new pair of the iterator's own -/
theorem pair_new (k2 : w2.ok T S2) {p : Addr} {d1 d2 : D} {u1 u2 : V} (r1 : RV T w2 d1 u1) (r2 : RV T w2 d2 u2) (hp : w2.H p = none) : ∃ w3, w2.le w3 ∧ w3.ok T S2 ∧ w3.H = upd w2.H p (.tup [u1, u2]) ∧ RV T w3 (.tup [d1, d2]) (.ref p) := by
  obtain ⟨k3, hx⟩ := k2.freeze (o := .tup [u1, u2]) hp
  exact ⟨_, hx, k3, rfl, .tup (SqT.of upd_same) (.cons (Rep.le hx r1) (.cons (Rep.le hx r2) .nil))⟩
theorem pairs_get : ∀ {xs : List D} {k i : Nat} {d : D}, (pairs k xs)[i]? = some d → ∃ x, xs[i]? = some x ∧ d = .tup [.int ((k + i : Nat) : Int), x]
  | [], _, _, _, h => by simp [pairs] at h
  | x :: xs, k, 0, d, h => by
    simp [pairs] at h
    exact ⟨x, rfl, h.symm⟩
  | x :: xs, k, i + 1, d, h => by
    have h' : (pairs (k + 1) xs)[i]? = some d := by simpa [pairs] using h
    obtain ⟨y, h1, h2⟩ := pairs_get h'
    refine ⟨y, by simpa using h1, ?_⟩
    rw [h2, show k + 1 + i = k + (i + 1) by omega]
theorem pairs_len : ∀ (xs : List D) (k : Nat), (pairs k xs).length = xs.length
  | [], _ => rfl
  | _ :: xs, k => by rw [pairs, List.length_cons, List.length_cons, pairs_len xs]
theorem itr_enm (k : w.ok T S) (rx : RV T w x v) (h : x.items S = some xs) {a : Addr} (ha : v = .ref a) (c : Nat) : ItR T w (pairs c xs, x.watch xs) (IteA (fun H xs => SqL T.K H a xs) c) := by
  intro w2 S2 i hle k2 st
  obtain ⟨b, vs, e, hs, rs⟩ := later_lst k rx h hle k2 st
  rw [ha] at e
  cases e
  refine ⟨fun d hd => ?_, fun hl => ⟨vs, hs, by rw [← rs.length]; have := pairs_len xs c; have hl' : (pairs c xs).length ≤ i := hl; omega⟩⟩
  obtain ⟨d0, hd0, e0⟩ := pairs_get hd
  subst e0
  obtain ⟨u, hu, ru⟩ := rs.get hd0
  refine ⟨⟨vs, u, hs, hu⟩, fun u' H' q => ?_⟩
  obtain ⟨p, u2, e1, hp, e2, q2⟩ := q
  subst e1 e2
  have := pair_new k2 (d1 := .int ((c + i : Nat) : Int)) (u1 := .int ((c : Int) + (i : Nat))) (by have := Rep.int (K := T.K) (W := T.W) (G := w2.G) (φ := w2.φ) ((c + i : Nat) : Int); rw [show ((c : Int) + (i : Nat)) = ((c + i : Nat) : Int) by omega]; exact this) (sql_inj_of rs hd0 q2 hs) hp
  exact this
theorem itr_enmT {a : Addr} {vs : List V} (g : SqT T.K w.G a vs) (rs : RVs T w xs vs) (c : Nat) : ItR T w (pairs c xs, []) (IteA (fun H xs => SqT T.K H a xs) c) := by
  intro w2 S2 i hle k2 st
  have hs : SqT T.K w2.H a vs := sub_t k2.sub (sub_t hle.sub g)
  have rs2 : RVs T w2 xs vs := Reps.le hle rs
  refine ⟨fun d hd => ?_, fun hl => ⟨vs, hs, by rw [← rs.length]; have := pairs_len xs c; have hl' : (pairs c xs).length ≤ i := hl; omega⟩⟩
  obtain ⟨d0, hd0, e0⟩ := pairs_get hd
  subst e0
  obtain ⟨u, hu, ru⟩ := rs2.get hd0
  refine ⟨⟨vs, u, hs, hu⟩, fun u' H' q => ?_⟩
  obtain ⟨p, u2, e1, hp, e2, q2⟩ := q
  subst e1 e2
  have := pair_new k2 (d1 := .int ((c + i : Nat) : Int)) (u1 := .int ((c : Int) + (i : Nat))) (by have := Rep.int (K := T.K) (W := T.W) (G := w2.G) (φ := w2.φ) ((c + i : Nat) : Int); rw [show ((c : Int) + (i : Nat)) = ((c + i : Nat) : Int) by omega]; exact this) (sqt_inj_of rs2 hd0 q2 hs) hp
  exact this
theorem zip_get : ∀ {xs ys : List D} {i : Nat} {d : D}, (zipD xs ys)[i]? = some d → ∃ x y, xs[i]? = some x ∧ ys[i]? = some y ∧ d = .tup [x, y]
  | [], _, _, _, h => by simp [zipD] at h
  | _ :: _, [], _, _, h => by simp [zipD] at h
  | x :: xs, y :: ys, 0, d, h => by
    simp [zipD] at h
    exact ⟨x, y, rfl, rfl, h.symm⟩
  | x :: xs, y :: ys, i + 1, d, h => by
    obtain ⟨x', y', h1, h2, h3⟩ := zip_get (xs := xs) (ys := ys) (i := i) (d := d) (by simpa [zipD] using h)
    exact ⟨x', y', by simpa using h1, by simpa using h2, h3⟩
theorem zip_len : ∀ (xs ys : List D), (zipD xs ys).length = min xs.length ys.length
  | [], _ => by simp [zipD]
  | _ :: _, [] => by simp [zipD]
  | _ :: xs, _ :: ys => by
    rw [zipD, List.length_cons, List.length_cons, List.length_cons, zip_len xs ys]
    omega
theorem itr_zip {y : D} {u : V} {ys : List D} (k : w.ok T S) (rx : RV T w x v) (ry : RV T w y u) (h : x.items S = some xs) (hy : y.items S = some ys) {a b : Addr} (ha : v = .ref a) (hb : u = .ref b) : ItR T w (zipD xs ys, x.watch xs ++ y.watch ys) (Itz T.K a b) := by
  intro w2 S2 i hle k2 st
  have st' : still (x.watch xs ++ y.watch ys) S2 = true := st
  rw [still_app, Bool.and_eq_true] at st'
  obtain ⟨a', vs, e, hs, rs⟩ := later_lst k rx h hle k2 st'.1
  rw [ha] at e
  cases e
  obtain ⟨b', us, e, hs2, rs2⟩ := later_lst k ry hy hle k2 st'.2
  rw [hb] at e
  cases e
  refine ⟨fun d hd => ?_, fun hl => ⟨vs, us, hs, hs2, ?_⟩⟩
  · obtain ⟨d1, d2, h1, h2, e0⟩ := zip_get hd
    subst e0
    obtain ⟨u1, hu1, ru1⟩ := rs.get h1
    obtain ⟨u2, hu2, ru2⟩ := rs2.get h2
    refine ⟨⟨vs, us, u1, u2, hs, hs2, hu1, hu2⟩, fun u' H' q => ?_⟩
    obtain ⟨p, z1, z2, e1, hp, e2, q1, q2⟩ := q
    subst e1 e2
    exact pair_new k2 (sql_inj_of rs h1 q1 hs) (sql_inj_of rs2 h2 q2 hs2) hp
  · have hl' : (zipD xs ys).length ≤ i := hl
    rw [zip_len, rs.length, rs2.length] at hl'
    omega
theorem itr_zipT {ys : List D} {a b : Addr} {vs us : List V} (g : SqT T.K w.G a vs) (rs : RVs T w xs vs) (g2 : SqT T.K w.G b us) (rs2 : RVs T w ys us) : ItR T w (zipD xs ys, []) (ItzT T.K a b) := by
  intro w2 S2 i hle k2 st
  have hs : SqT T.K w2.H a vs := sub_t k2.sub (sub_t hle.sub g)
  have hs2 : SqT T.K w2.H b us := sub_t k2.sub (sub_t hle.sub g2)
  have rs : RVs T w2 xs vs := Reps.le hle rs
  have rs2 : RVs T w2 ys us := Reps.le hle rs2
  refine ⟨fun d hd => ?_, fun hl => ⟨vs, us, hs, hs2, ?_⟩⟩
  · obtain ⟨d1, d2, h1, h2, e0⟩ := zip_get hd
    subst e0
    obtain ⟨u1, hu1, ru1⟩ := rs.get h1
    obtain ⟨u2, hu2, ru2⟩ := rs2.get h2
    refine ⟨⟨vs, us, u1, u2, hs, hs2, hu1, hu2⟩, fun u' H' q => ?_⟩
    obtain ⟨p, z1, z2, e1, hp, e2, q1, q2⟩ := q
    subst e1 e2
    exact pair_new k2 (sqt_inj_of rs h1 q1 hs) (sqt_inj_of rs2 h2 q2 hs2) hp
  · have hl' : (zipD xs ys).length ≤ i := hl
    rw [zip_len, rs.length, rs2.length] at hl'
    omega
theorem itr_rng (n : Nat) : ItR T w ((List.range n).map fun k => D.int (k : Nat), []) (Itr 0 n) := by
  intro w2 S2 i hle k2 st
  refine ⟨fun d hd => ?_, fun hl => ?_⟩
  · have hd' : ((List.range n).map fun k => D.int (k : Nat))[i]? = some d := hd
    rw [List.getElem?_map] at hd'
    obtain ⟨c, hc, e⟩ := Option.map_eq_some_iff.mp hd'
    subst e
    have hi : i < n := by
      have := (List.getElem?_eq_some_iff.mp hc).1
      simpa using this
    rw [List.getElem?_range hi] at hc
    cases hc
    refine ⟨hi, fun u' H' ⟨e, q⟩ => ⟨w2, .refl _, k2, e.symm, ?_⟩⟩
    subst q
    rw [show (0 : Int) + (i : Nat) = (i : Nat) by omega]
    exact .int _
  · have hl' : ((List.range n).map fun k => D.int (k : Nat)).length ≤ i := hl
    show n ≤ i
    simpa using hl'
end
section
variable {Γ : Ct} {a b tg : Expr} {fa fb : FD} {pos p : Pos}
/-- a value walked -/
def iAny (K : PySem.W.Frag) (te : TE) : TI := fun σ H R => te σ H fun x H1 => (∃ a, x = .ref a ∧ (∃ xs, SqL K H1 a xs) ∧ R (Itl K a) H1) ∨ (∃ a, x = .ref a ∧ (∃ xs, SqT K H1 a xs) ∧ R (Itt K a) H1) ∨ ∃ s, x = .str s ∧ R (Its s) H1
/-- a value that has come, walked by a rule for expressions -/
theorem pi_any {X : Cx} {e : Expr} {te : TE} (he : PE X e te) : PI X tg e (iAny X.K te) := by
  (refine ⟨fun pins s σ H R I h => ?_⟩)
  refine thn (he.run pins s σ H _ I h) fun v s1 ⟨x, H1, I1, r1, q1⟩ => ?_
  rcases q1 with ⟨a, e, ⟨xs, hq⟩, q⟩ | ⟨a, e, ⟨xs, hq⟩, q⟩ | ⟨y, e, q⟩
  · subst e
    cases r1
    (obtain ⟨its, rv, p, hz⟩ := I1.list hq)
    (refine wpAny_pyIter_list p.isList ?_)
    (refine ⟨s1.heap.objs.size, [s1.heap.objs.size], _, _, H1, rfl, I1.kept (t' := s1.toks) fun b o e => Heap.get?_push_of_some _ e, turn_list a _, ⟨_, Heap.get?_push_size _ rfl, rfl, rfl⟩, fun b hb => ?_, q⟩)
    (have e : b = s1.heap.objs.size := by simpa using hb)
    subst e
    (exact I1.fpOk (Nat.le_refl _) (I1.hok.fresh (Nat.le_refl _)))
  · subst e
    cases r1
    (obtain ⟨its, rv, p, hz⟩ := I1.tuple hq)
    (refine wpAny_pyIter_tuple (show s1.heap.IsTuple a its.toArray from p) ?_)
    (refine ⟨s1.heap.objs.size, [s1.heap.objs.size], _, _, H1, rfl, I1.kept (t' := s1.toks) fun b o e => Heap.get?_push_of_some _ e, turn_tuple a _, ⟨_, Heap.get?_push_size _ rfl, rfl, rfl⟩, fun b hb => ?_, q⟩)
    (have e : b = s1.heap.objs.size := by simpa using hb)
    subst e
    (exact I1.fpOk (Nat.le_refl _) (I1.hok.fresh (Nat.le_refl _)))
  · subst e
    obtain ⟨t, rfl⟩ := r1
    (cases ha : y.cps.all (· < 128))
    · exact wpAny_pyIter_wide ha (pi_one (tk := s1.toks) I1 _ (turn_str _ y t "str_iterator" (.inr rfl)) ⟨_, Heap.get?_push_size _ rfl, rfl, rfl⟩ q)
    · exact wpAny_pyIter_ascii ha (pi_one (tk := s1.toks) I1 _ (turn_str _ y t "str_ascii_iterator" (.inl rfl)) ⟨_, Heap.get?_push_size _ rfl, rfl, rfl⟩ q)
abbrev IR := List D × List (Nat × List D)
def valI (x : D) (S : Store) : Ro IR := match walkD S x with
  | some xs => .ok (xs, x.watch xs) S
  | none => .stuck
theorem valI_inv {x : D} {S S' : Store} {p : IR} (h : valI x S = .ok p S') : walkD S x = some p.1 ∧ p.2 = x.watch p.1 ∧ S' = S := by
  unfold valI at h
  split at h
  · rename_i xs e
    cases h
    exact ⟨e, rfl, rfl⟩
  · cases h
theorem walk_cases {x : D} {S : Store} {xs : List D} (h : walkD S x = some xs) : (x = .tup xs) ∨ (∃ s, x = .str s ∧ xs = s.map fun c => .str [c]) ∨ x.items S = some xs := by
  unfold walkD at h
  split at h
  · cases h; exact .inl rfl
  · cases h; exact .inr (.inl ⟨_, rfl, rfl⟩)
  · exact .inr (.inr h)
theorem bind_still {α : Type} {r : Ro α} {g : α → Store → Ro IR} {p : IR} {S' : Store} (h : r.bind g = .ok p S') : ∃ a S1, r = .ok a S1 ∧ g a S1 = .ok p S' := by
  cases r with
  | ok a S1 => exact ⟨a, S1, rfl, h⟩
  | err => cases h
  | stuck => cases h
theorem post_case {α β : Type} {T : Ks} {E : XK} {w : Wd} {R : Wd → α → β → Prop} {Q : β → Hp → Prop} {r : Ro α} (h : Post T R E w r Q) : (∃ a S, r = .ok a S) ∨ ∃ c as S, r = .err c as S := by
  cases r with
  | ok a S => exact .inl ⟨a, S, rfl⟩
  | err c as S => exact .inr ⟨c, as, S, rfl⟩
  | stuck => exact h.elim
theorem xi_val (ha : XE Γ a fa) : XI Γ tg a fun e S => (fa e S).bind fun x S => valI x S := by
  obtain ⟨ta, pa, sa⟩ := ha
  refine ⟨iAny Γ.T.K ta, fun Y ok => pi_any (pa Y ok), ?_, fun v S p S' h => ?_⟩
  · refine Snd.one (r := fun x H1 R => (∃ a, x = .ref a ∧ (∃ xs, SqL Γ.T.K H1 a xs) ∧ R (Itl Γ.T.K a) H1) ∨ (∃ a, x = .ref a ∧ (∃ xs, SqT Γ.T.K H1 a xs) ∧ R (Itt Γ.T.K a) H1) ∨ ∃ s, x = .str s ∧ R (Its s) H1) sa fun w S x v Q k rx h => ?_
    cases e : walkD S x with
    | none => unfold valI at h; rw [e] at h; exact h.elim
    | some xs =>
      have h' : Post Γ.T (ItR Γ.T) Γ.E w (.ok (xs, x.watch xs) S) Q := by unfold valI at h; rw [e] at h; exact h
      rcases walk_cases e with rfl | ⟨s, rfl, rfl⟩ | hi
      · cases rx with
        | tup g r => exact .inr (.inl ⟨_, rfl, ⟨_, sqt_up k g⟩, h'.ok_ k (itr_tup g r)⟩)
      · cases rx with
        | str => exact .inr (.inr ⟨_, rfl, h'.ok_ k (itr_str s)⟩)
      · obtain ⟨q, vs, rfl, hq, rs⟩ := items_at k rx hi
        exact .inl ⟨q, rfl, ⟨vs, sql_of hq⟩, h'.ok_ k (itr_lst k rx hi rfl)⟩
  · obtain ⟨x, S1, _, h2⟩ := bind_still h
    obtain ⟨h3, h4, h5⟩ := valI_inv h2
    subst h5
    rw [h4]
    rcases walk_cases h3 with e | ⟨s, e, _⟩ | hi
    · exact still_watch (.inr e)
    · rw [e]; rfl
    · exact still_watch (.inl hi)
def rngI (x : D) (S : Store) : Ro IR := match x with
  | .int n => if -(2 ^ 62) ≤ n ∧ n < 2 ^ 62 then .ok ((List.range n.toNat).map fun k => D.int (k : Nat), []) S else .stuck
  | _ => .stuck
theorem xi_rng (ha : XE Γ a fa) (hg : Γ.sc.names.lookup ("range" : Str) = some .globalImplicit) (hm : Γ.M.mg ("range" : Str) = none) (hs : notStar a = true) : XI Γ tg (.Call (.Name "range" p) [a] [] pos) fun e S => (fa e S).bind fun x S => rngI x S := by
  obtain ⟨ta, pa, sa⟩ := ha
  refine ⟨iRng1 (tCons ta tNil), fun Y ok => pi_range1 (glY ok hg) hm (pa_cons (pa Y ok) pa_nil (star_cons hs _)) (star_cons (es := []) hs _), ?_, fun v S p S' h => ?_⟩
  · refine Snd.one (r := fun x H1 R => ∃ j : Int, [x] = [.int j] ∧ -(2 ^ 62) ≤ j ∧ j < 2 ^ 62 ∧ R (Itr 0 j.toNat) H1) sa fun w S x v Q k rx h => ?_
    unfold rngI at h
    split at h
    · split at h
      · rename_i n hc
        cases rx
        exact ⟨n, rfl, hc.1, hc.2, h.ok_ k (itr_rng _)⟩
      · exact h.elim
    · exact h.elim
  · obtain ⟨x, S1, _, h2⟩ := bind_still h
    unfold rngI at h2
    split at h2
    · split at h2
      · cases h2; rfl
      · cases h2
    · cases h2
def enmI (c : Nat) (x : D) (S : Store) : Ro IR := match x.row S with
  | some xs => .ok (pairs c xs, x.watch xs) S
  | none => .stuck
theorem row_cases {x : D} {S : Store} {xs : List D} (h : x.row S = some xs) : x = .tup xs ∨ x.items S = some xs := by
  unfold D.row at h
  split at h
  · cases h; exact .inl rfl
  · exact .inr h
theorem enm_leaf {T : Ks} {E : XK} {w : Wd} {S : Store} {x : D} {v : V} {c : Nat} {Q : It → Hp → Prop} (k : w.ok T S) (rx : RV T w x v) (h : Post T (ItR T) E w (enmI c x S) Q) :
    ∃ a xs, v = .ref a ∧ ((SqL T.K w.H a xs ∧ Q (IteA (fun H xs => SqL T.K H a xs) c) w.H) ∨ (SqT T.K w.H a xs ∧ Q (IteA (fun H xs => SqT T.K H a xs) c) w.H)) := by
  cases e : x.row S with
  | none => unfold enmI at h; rw [e] at h; exact h.elim
  | some xs =>
    have h' : Post T (ItR T) E w (.ok (pairs c xs, x.watch xs) S) Q := by unfold enmI at h; rw [e] at h; exact h
    rcases row_cases e with rfl | hi
    · cases rx with
      | tup g r => exact ⟨_, _, rfl, .inr ⟨sqt_up k g, h'.ok_ k (itr_enmT g r c)⟩⟩
    · obtain ⟨q, vs, rfl, hq, rs⟩ := items_at k rx hi
      exact ⟨q, vs, rfl, .inl ⟨sql_of hq, h'.ok_ k (itr_enm k rx hi rfl c)⟩⟩
theorem enm_still {c : Nat} {x : D} {S S' : Store} {p : IR} (h : enmI c x S = .ok p S') : still p.2 S' = true := by
  unfold enmI at h
  split at h
  · rename_i xs e
    cases h
    rcases row_cases e with rfl | hi
    · rfl
    · exact still_watch (.inl hi)
  · cases h
variable {elts : List Expr} {kk : Nat} {tpos : Pos}
theorem xi_enm (ha : XE Γ a fa) (hg : Γ.sc.names.lookup ("enumerate" : Str) = some .globalImplicit) (hm : Γ.M.mg ("enumerate" : Str) = none) (hs : notStar a = true) : XI Γ (.Tuple elts kk tpos) (.Call (.Name "enumerate" p) [a] [] pos) fun e S => (fa e S).bind fun x S => enmI 0 x S := by
  obtain ⟨ta, pa, sa⟩ := ha
  refine ⟨iEnumA Γ.T.K 0 ta, fun Y ok => pi_enumA (glY ok hg) hm (pa Y ok) hs, ?_, fun v S p S' h => ?_⟩
  · refine Snd.one (r := fun x H1 R => ∃ y, [x] = [y] ∧ ∃ a xs, y = .ref a ∧ ((SqL Γ.T.K H1 a xs ∧ R (IteA (fun H xs => SqL Γ.T.K H a xs) 0) H1) ∨ (SqT Γ.T.K H1 a xs ∧ R (IteA (fun H xs => SqT Γ.T.K H a xs) 0) H1))) sa fun w S x v Q k rx h => ⟨v, rfl, enm_leaf (c := 0) k rx h⟩
  · obtain ⟨x, S1, _, h2⟩ := bind_still h
    exact enm_still h2
theorem xi_enf {c : Nat} {j : Nat} {cp : Pos} (hc : c < 1000000) (ha : XE Γ a fa) (hg : Γ.sc.names.lookup ("enumerate" : Str) = some .globalImplicit) (hm : Γ.M.mg ("enumerate" : Str) = none) (hs : notStar a = true) :
    XI Γ (.Tuple elts kk tpos) (.Call (.Name "enumerate" p) [a, .Constant (.int (c : Nat)) j cp] [] pos) fun e S => (fa e S).bind fun x S => enmI c x S := by
  obtain ⟨ta, pa, sa⟩ := ha
  refine ⟨iEnumK Γ.T.K c ta, fun Y ok => pi_enumK (glY ok hg) hm (pa Y ok) hs (by omega) (by omega), ?_, fun v S p S' h => ?_⟩
  · refine Snd.one (r := fun x H1 R => ∃ y, [x, .int c] = [y, .int c] ∧ ∃ a xs, y = .ref a ∧ ((SqL Γ.T.K H1 a xs ∧ R (IteA (fun H xs => SqL Γ.T.K H a xs) c) H1) ∨ (SqT Γ.T.K H1 a xs ∧ R (IteA (fun H xs => SqT Γ.T.K H a xs) c) H1))) sa fun w S x v Q k rx h => ⟨v, rfl, enm_leaf k rx h⟩
  · obtain ⟨x, S1, _, h2⟩ := bind_still h
    exact enm_still h2
def zipI (x y : D) (S : Store) : Ro IR := match x, y with
  | .tup xs, .tup ys => .ok (zipD xs ys, []) S
  | x, y => (match x.items S, y.items S with
    | some xs, some ys => .ok (zipD xs ys, x.watch xs ++ y.watch ys) S
    | _, _ => .stuck)
theorem zipI_inv {x y : D} {S S' : Store} {p : IR} (h : zipI x y S = .ok p S') : S' = S ∧ ((∃ xs ys, x = .tup xs ∧ y = .tup ys ∧ p = (zipD xs ys, [])) ∨ ∃ xs ys, x.items S = some xs ∧ y.items S = some ys ∧ p = (zipD xs ys, x.watch xs ++ y.watch ys)) := by
  unfold zipI at h
  split at h
  · cases h; exact ⟨rfl, .inl ⟨_, _, rfl, rfl, rfl⟩⟩
  · split at h
    · cases h
      exact ⟨rfl, .inr ⟨_, _, by assumption, by assumption, rfl⟩⟩
    · cases h
theorem xi_zip (ha : XE Γ a fa) (hb : XE Γ b fb) (hg : Γ.sc.names.lookup ("zip" : Str) = some .globalImplicit) (hm : Γ.M.mg ("zip" : Str) = none) (hs : notStar a = true) (hs2 : notStar b = true) :
    XI Γ (.Tuple elts kk tpos) (.Call (.Name "zip" p) [a, b] [] pos) fun e S => (fa e S).bind fun x S => (fb e S).bind fun y S => zipI x y S := by
  obtain ⟨ta, pa, sa⟩ := ha
  obtain ⟨tb, pb, sb⟩ := hb
  refine ⟨iZipA Γ.T.K (tCons ta (tCons tb tNil)), fun Y ok => pi_zipA (glY ok hg) hm (pa_cons (pa Y ok) (pa_cons (pb Y ok) pa_nil (star_cons hs2 _)) (star_cons hs _)) (star_cons hs _) (star_plain _ (by rw [List.all_cons, hs2]; rfl)), ?_, fun v S p S' h => ?_⟩
  · refine Snd.two (r := fun x y H1 R => ∃ a b xs ys, [x, y] = [.ref a, .ref b] ∧ ((SqL Γ.T.K H1 a xs ∧ SqL Γ.T.K H1 b ys ∧ R (Itz Γ.T.K a b) H1) ∨ (SqT Γ.T.K H1 a xs ∧ SqT Γ.T.K H1 b ys ∧ R (ItzT Γ.T.K a b) H1))) sa sb fun w S x y v u Q k rx ry h => ?_
    rcases post_case h with ⟨p, S', e⟩ | ⟨c, as, S', e⟩
    · rw [e] at h
      obtain ⟨hS, q⟩ := zipI_inv e
      subst hS
      rcases q with ⟨xs, ys, rfl, rfl, rfl⟩ | ⟨xs, ys, h1, h2, rfl⟩
      · cases rx with
        | tup g r =>
        cases ry with
        | tup g2 r2 => exact ⟨_, _, _, _, rfl, .inr ⟨sqt_up k g, sqt_up k g2, h.ok_ k (itr_zipT g r g2 r2)⟩⟩
      · obtain ⟨q, vs, rfl, hq, rs⟩ := items_at k rx h1
        obtain ⟨q2, us, rfl, hq2, rs2⟩ := items_at k ry h2
        exact ⟨q, q2, vs, us, rfl, .inl ⟨sql_of hq, sql_of hq2, h.ok_ k (itr_zip k rx ry h1 h2 rfl rfl)⟩⟩
    · exfalso
      unfold zipI at e
      split at e
      · cases e
      · split at e <;> cases e
  · obtain ⟨x, S1, _, h2⟩ := bind_still h
    obtain ⟨y, S2, _, h3⟩ := bind_still h2
    obtain ⟨hS, q⟩ := zipI_inv h3
    subst hS
    rcases q with ⟨xs, ys, rfl, rfl, rfl⟩ | ⟨xs, ys, h1, h4, rfl⟩
    · rfl
    · show still (x.watch xs ++ y.watch ys) _ = true
      rw [still_app, still_watch (.inl h1), still_watch (.inl h4)]
      rfl
end
end Pv
namespace Pv
open PySem L2
def gNames : List Nat → TGs
  | [] => gNil
  | i :: is => gCons (gName i) (gNames is)
def gT (K : PySem.W.Frag) : Tg → TG
  | .nm i => gName i
  | .tp is => gTup K is.length (gNames is)
def Tg.slots : Tg → List Nat
  | .nm i => [i]
  | .tp is => is
def putV (σ : L2.St) : List Nat → List V → L2.St := fun is vs => (is.zip vs).foldl (fun s p => s.set p.1 (some p.2)) σ
theorem gNames_to : ∀ {is : List Nat} {vs : List V} {σ : L2.St} {H : Hp} {Q : L2.St → Hp → Prop}, vs.length = is.length → Q (putV σ is vs) H → gNames is vs σ H Q
  | [], [], _, _, _, _, q => ⟨rfl, q⟩
  | i :: is, v :: vs, σ, _, _, h, q => ⟨v, vs, rfl, gNames_to (is := is) (vs := vs) (σ := σ.set i (some v)) (by simpa using h) q⟩
theorem wipe_get {σ : L2.St} {j : Nat} : ∀ {vs : List Nat}, (L2.wipe σ vs)[j]? = if j ∈ vs then (σ[j]?).map (fun _ => none) else σ[j]?
  | [] => by simp [L2.wipe]
  | v :: vs => by
    show ((L2.wipe σ vs).set v none)[j]? = _
    have ih := wipe_get (σ := σ) (j := j) (vs := vs)
    by_cases e : j = v
    · subst e
      rw [if_pos (by simp)]
      by_cases hl : j < (L2.wipe σ vs).length
      · rw [List.getElem?_set_self hl]
        have : j < σ.length := by rw [L2.wipe_length] at hl; exact hl
        rw [List.getElem?_eq_getElem this]
        rfl
      · have h2 : ¬ j < σ.length := by rw [L2.wipe_length] at hl; exact hl
        rw [List.getElem?_eq_none (by simp; omega), List.getElem?_eq_none (by omega)]
        rfl
    · rw [List.getElem?_set_ne (Ne.symm e), ih]
      by_cases h : j ∈ vs
      · rw [if_pos h, if_pos (by simp [h])]
      · rw [if_neg h, if_neg (by simp [h, e])]
theorem wipe_set {σ : L2.St} {vs : List Nat} {i : Nat} {x : Option V} (h : i ∈ vs) : L2.wipe (σ.set i x) vs = L2.wipe σ vs := by
  apply List.ext_getElem?
  intro j
  rw [wipe_get, wipe_get]
  by_cases e : j = i
  · subst e
    rw [if_pos h, if_pos h]
    by_cases hl : j < σ.length
    · rw [List.getElem?_set_self hl, List.getElem?_eq_getElem hl]
      rfl
    · rw [List.getElem?_eq_none (by simp; omega), List.getElem?_eq_none (by omega)]
  · rw [List.getElem?_set_ne (Ne.symm e)]
theorem wipe_wipe {σ : L2.St} {vs : List Nat} : L2.wipe (L2.wipe σ vs) vs = L2.wipe σ vs := by
  apply List.ext_getElem?
  intro j
  rw [wipe_get, wipe_get]
  by_cases h : j ∈ vs
  · rw [if_pos h, if_pos h]
    cases σ[j]? <;> rfl
  · rw [if_neg h, if_neg h]
theorem wipe_put {vs : List Nat} : ∀ {is : List Nat} {us : List V} {σ : L2.St}, (∀ i ∈ is, i ∈ vs) → L2.wipe (putV σ is us) vs = L2.wipe σ vs
  | [], _, _, _ => rfl
  | _ :: _, [], _, _ => rfl
  | i :: is, u :: us, σ, h => by
    show L2.wipe (putV (σ.set i (some u)) is us) vs = _
    rw [wipe_put (is := is) (us := us) fun j hj => h j (by simp [hj]), wipe_set (h i (by simp))]
section
variable {T : Ks} {w : Wd} {S : Store} {e e' : Pv.Env} {σ : L2.St} {x : D} {v : V}
theorem bind_to {t : Tg} {Q : L2.St → Hp → Prop} (k : w.ok T S) (he : EnvR T w e σ) (rx : RV T w x v) (h : bindT t x e = some e')
    (q : ∀ σ', EnvR T w e' σ' → (∀ vs, (∀ i ∈ t.slots, i ∈ vs) → L2.wipe σ' vs = L2.wipe σ vs) → Q σ' w.H) : gT T.K t v σ w.H Q := by
  cases t with
  | nm i =>
    cases h
    exact q _ (he.set i rx) fun vs hv => wipe_set (hv i (by simp [Tg.slots]))
  | tp is =>
    unfold bindT at h
    simp only at h
    split at h
    · split at h
      · rename_i xs hl
        cases h
        cases rx with
        | tup g r =>
        refine ⟨_, _, rfl, sqt_up k g, by rw [← r.length]; exact hl, gNames_to (by rw [← r.length]; exact hl) (q _ (he.setAll r hl) fun vs hv => wipe_put hv)⟩
      · cases h
    · cases h
end
/-- a name that may be stored -/
def StoreOk (Γ : Ct) (i : Nat) (x : Str) : Prop := Γ.N[i]? = some x ∧ (Γ.sc.names.lookup x = some .local ∨ (Γ.top = true ∧ Γ.sc.names.lookup x = some .cell))
section
variable {Γ : Ct} {Y : Dy} {i : Nat} {x : Str} {pos : Pos}
theorem StoreOk.loc (h : StoreOk Γ i x) (ok : Γ.Ok Y) : Loc (Γ.cx Y).env.scope x := by
  show Loc Y.env.scope x
  rw [ok.sc]
  rcases h.2 with h | h
  · exact .inl h
  · exact .inr h.2
theorem StoreOk.fn (h : StoreOk Γ i x) (ok : Γ.Ok Y) : (Γ.cx Y).fn x = true ∨ (Γ.cx Y).env.scope.names.lookup x = some .local := by
  rcases h.2 with h | h
  · refine .inr ?_
    show Y.env.scope.names.lookup x = _
    rw [ok.sc]
    exact h
  · refine .inl ?_
    show Y.fn x = true
    rw [ok.fn h.1]
theorem pg_nm (h : StoreOk Γ i x) (ok : Γ.Ok Y) : PG (Γ.cx Y) (.Name x pos) (gName i) := pg_name ok.nd h.1 (h.loc ok) (h.fn ok)
end
def XG (Γ : Ct) (tg : Expr) (t : Tg) : Prop := ∀ Y, Γ.Ok Y → PG (Γ.cx Y) tg (gT Γ.T.K t)
theorem xg_nm {Γ : Ct} {i : Nat} {x : Str} {pos : Pos} (h : StoreOk Γ i x) : XG Γ (.Name x pos) (.nm i) := fun _ ok => pg_nm h ok
/-- the names of a tuple of targets -/
def NamesOk (Γ : Ct) : List Nat → List Expr → Prop
  | [], [] => True
  | i :: is, .Name x _ :: es => StoreOk Γ i x ∧ NamesOk Γ is es
  | _, _ => False
theorem names_pgs {Γ : Ct} {Y : Dy} (ok : Γ.Ok Y) : ∀ {is : List Nat} {es : List Expr}, NamesOk Γ is es → PGs (Γ.cx Y) es (gNames is)
  | [], [], _ => pgs_nil
  | i :: is, .Name x _ :: es, h => pgs_cons (pg_nm h.1 ok) (names_pgs ok h.2) rfl
theorem names_len {Γ : Ct} (env : PySem.Env) : ∀ {is : List Nat} {es : List Expr}, NamesOk Γ is es → (assignEach es env).length = is.length
  | [], [], _ => rfl
  | i :: is, .Name x _ :: es, h => by
    show (_ :: assignEach es env).length = _
    rw [List.length_cons, names_len env h.2]
    rfl
theorem names_star {Γ : Ct} (env : PySem.Env) : ∀ {is : List Nat} {es : List Expr}, NamesOk Γ is es → (assignEach es env).findIdx? (·.1) = none
  | [], [], _ => rfl
  | i :: is, .Name x p :: es, h => by
    have ih := names_star env h.2
    show ((false, assign (.Name x p) env) :: assignEach es env).findIdx? (·.1) = none
    rw [List.findIdx?_cons]
    (simp only [Bool.false_eq_true, if_false])
    rw [ih]
    rfl
theorem xg_tp {Γ : Ct} {is : List Nat} {es : List Expr} {kk : Nat} {pos : Pos} (h : NamesOk Γ is es) : XG Γ (.Tuple es kk pos) (.tp is) := fun Y ok => pg_tup rfl (names_pgs ok h) (names_len _ h) (names_star _ h)
def Ct.blk (Γ : Ct) (scope : Scope) : Ct := { Γ with E := fun _ _ _ => False, sc := relS scope Γ.sc, top := false, lm := none }
def Dy.blk (Y : Dy) (s : Shared) (H : Hp) (scope : Scope) (cenv : PySem.Env) (fp : List Addr) : Dy := ⟨Y.A, s, H, cenv, Y.stack, Y.stack, fp, fun x => scope.names.lookup x == some .cell, [], fun _ _ => False⟩
theorem blk_ok {Γ : Ct} {Y : Dy} (ok : Γ.Ok Y) (s : Shared) (H : Hp) (scope : Scope) (cl : List (Str × Addr)) (C : Addr) (fp : List Addr) : (Γ.blk scope).Ok (Y.blk s H scope (compEnvC scope cl C Y.env) fp) where
  sc := by
    show relS scope Y.env.scope = relS scope Γ.sc
    rw [ok.sc]
  nd := ok.nd
  room := ok.room
  fn := fun h => by cases h
  lam := fun c P q h => by cases h
  takes := fun u s' ⟨a, B, sI, pins, σ, H, cls, d, _, _, _, _, _, _, _, _, h⟩ => h.elim
def XTs (Γ : Ct) (ifs : List Expr) (f : FB) : Prop := ∃ t, (∀ Y, Γ.Ok Y → PTs (Γ.cx Y) ifs t) ∧ Snd Γ.T Γ.E RBo t f
theorem xts_nil {Γ : Ct} : XTs Γ [] fun _ S => .ok true S := ⟨_, fun _ _ => pts_nil, fun w S e σ Q k he h => h.ok_ k rfl⟩
theorem xts_one {Γ : Ct} {a : Expr} {g : FB} (h : XT Γ a g) : XTs Γ [a] g := by
  obtain ⟨t, p, s⟩ := h
  exact ⟨t, fun Y ok => pts_one (p Y ok), s⟩
section
variable {T : Ks} {w w1 : Wd} {S : Store} {D : Addr} {o : HO}
theorem hid_upd {xs : List V} (k : w.ok T S) (hφ : D ∉ w.φ) (hG : w.G D = none) (hH : w.H D = some (.lst xs)) : (Wd.mk (upd w.H D o) w.G w.φ).ok T S := by
  have sH : ∀ a u, w.H a = some u → a ≠ D → upd w.H D o a = some u := fun a u e n => by rw [upd_ne n]; exact e
  refine ⟨fun a u e => sH a u (k.sub a u e) (ne_of_none e hG), k.len, k.nd, k.live, fun i a c e ec => ?_, k.gt, tabs_upd k.tab hH (fun _ q => by cases q) fun _ q => by cases q⟩
  have n : a ≠ D := fun q => hφ (q ▸ List.mem_of_getElem? e)
  cases k.cell i a c e ec with
  | lst h1 r => exact .lst (sH _ _ h1 n) r
  | ins h1 h2 r => exact .ins (sH _ _ h1 n) h2 r
theorem le_upd (x : w1.le w) (h1 : w1.H D = none) : w1.le (Wd.mk (upd w.H D o) w.G w.φ) :=
  ⟨x.sub, x.pre, fun a u e n nt => by
    show upd w.H D o a = some u
    rw [upd_ne (ne_of_none e h1)]
    exact x.keep a u e n nt, x.new, x.newG⟩
theorem hid_frz (k : w.ok T S) (hφ : D ∉ w.φ) (hH : w.H D = some o) (hG : w.G D = none) (ho : ∀ ps, o ≠ HO.tbl ps := by intro _ h; cases h) : (Wd.mk w.H (upd w.G D o) w.φ).ok T S := by
  have sG : Sub w.G (upd w.G D o) := fun a u e => by rw [upd_ne (ne_of_none e hG)]; exact e
  refine ⟨fun a u e => ?_, k.len, k.nd, fun i a e => ?_, fun i a c e ec => ?_, fun a ps e => ?_, k.tab⟩
  · by_cases q : a = D
    · subst q
      have e' : upd w.G a o a = some u := e
      rw [upd_same] at e'
      cases e'
      exact hH
    · have e' : upd w.G D o a = some u := e
      rw [upd_ne q] at e'
      exact k.sub a u e'
  · show upd w.G D o a = none
    rw [upd_ne (fun q : a = D => hφ (by rw [← q]; exact List.mem_of_getElem? e))]
    exact k.live i a e
  · cases k.cell i a c e ec with
    | lst h1 r => exact .lst h1 (r.mono sG (Pre.refl _))
    | ins h1 h2 r => exact .ins h1 h2 (r.mono sG (Pre.refl _))
  · by_cases q : a = D
    · subst q
      have e' : upd w.G a o a = some (.tbl ps) := e
      rw [upd_same] at e'
      exact ho ps (Option.some.inj e')
    · have e' : upd w.G D o a = some (.tbl ps) := e
      rw [upd_ne q] at e'
      exact k.gt a ps e'
theorem le_frz (x : w1.le w) (h1 : w1.H D = none) (hG : w.G D = none) : w1.le (Wd.mk w.H (upd w.G D o) w.φ) :=
  ⟨fun a u e => by
    show upd w.G D o a = some u
    rw [upd_ne (ne_of_none (x.sub a u e) hG)]
    exact x.sub a u e, x.pre, x.keep, x.new, fun a u e => by
    by_cases q : a = D
    · exact .inr (Wd.fr_of (q ▸ h1))
    · have e' : upd w.G D o a = some u := e
      rw [upd_ne q] at e'
      exact x.newG a u e'⟩
end
def lcBody (t : Tg) (vs : List Nat) (ft : FB) (fe : FD) (e : Pv.Env) (x : D) (S : Store) : Ro (Option D) :=
  (Ro.opt (bindT t x (Pv.wipe e vs)) S).bind fun e' S => (ft e' S).bind fun k S => if k then (fe e' S).bind fun d S => .ok (some d) S else .ok none S
theorem lc_ok (b : D → Store → Ro (Option D)) (wt : List (Nat × List D)) : ∀ (xs : List D) (S : Store), (∃ ys S', lcLoop b wt xs S = .ok ys S') ∨ lcLoop b wt xs S = .stuck
  | [], S => .inl ⟨_, _, rfl⟩
  | x :: xs, S => by
    unfold lcLoop
    cases b x S with
    | ok o S1 =>
      show (∃ ys S', (if still wt S1 then _ else _) = Ro.ok ys S') ∨ (if still wt S1 then _ else _) = _
      split
      · rcases lc_ok b wt xs S1 with ⟨ys, S2, e⟩ | e
        · rw [e]; exact .inl ⟨_, _, rfl⟩
        · rw [e]; exact .inr rfl
      · exact .inr rfl
    | err => exact .inr rfl
    | stuck => exact .inr rfl
/-- the rest of the walk, the items ds got -/
def lcRest (b : D → Store → Ro (Option D)) (wt : List (Nat × List D)) (ds xs : List D) (S : Store) : Ro D := (lcLoop b wt xs S).bind fun ys S => szD .lst (ds ++ ys) S
theorem lcRest_cons {T : Ks} {E : XK} {w : Wd} {Q : VK} {b : D → Store → Ro (Option D)} {wt : List (Nat × List D)} {ds xs : List D} {x : D} {S : Store} (h : Post T (RV T) E w (lcRest b wt ds (x :: xs) S) Q) :
    ∃ o S1, b x S = .ok o S1 ∧ still wt S1 = true ∧ (ds ++ o.toList).length ≤ SZ ∧ Post T (RV T) E w (lcRest b wt (ds ++ o.toList) xs S1) Q := by
  unfold lcRest at h ⊢
  unfold lcLoop at h
  cases e : b x S with
  | ok o S1 =>
    rw [e] at h
    have h' : Post T (RV T) E w (Ro.bind (if still wt S1 = true then (lcLoop b wt xs S1).bind fun ys S2 => .ok (consO o ys) S2 else .stuck) fun ys S => szD .lst (ds ++ ys) S) Q := h
    by_cases c : still wt S1 = true
    · rw [if_pos c] at h'
      rcases lc_ok b wt xs S1 with ⟨ys, S2, e2⟩ | e2
      · rw [e2] at h'
        refine ⟨o, S1, rfl, c, ?_, ?_⟩
        · obtain ⟨h3, _⟩ := post_sz h'
          cases o with
          | none => simp only [List.length_append, Option.toList, consO, List.length_nil] at h3 ⊢; omega
          | some y => simp only [List.length_append, Option.toList, consO, List.length_cons, List.length_nil] at h3 ⊢; omega
        · rw [e2]
          cases o with
          | none => simpa [consO, Ro.bind] using h'
          | some y => simpa [consO, Ro.bind] using h'
      · rw [e2] at h'; exact h'.elim
    · rw [if_neg c] at h'; exact h'.elim
  | err => rw [e] at h; exact h.elim
  | stuck => rw [e] at h; exact h.elim
def noSet : Expr → Bool
  | .Set .. => false
  | _ => true
theorem no_set {e : Expr} (h : noSet e = true) (env : PySem.Env) (x : Value) : foldedSetIterable e env x = pure x := by
  cases e <;> first | rfl | cases h
section
variable {Γ : Ct} {elt tg iter : Expr} {ifs : List Expr} {scope : Scope} {own : List (Str × Nat)} {pos : Pos} {fi : FI} {t : Tg} {ft : FB} {fe : FD}
theorem lc_snd {wi : TI} {tt : TT} {te : TE} {vs : List Nat} (si : Snd Γ.T Γ.E (ItR Γ.T) wi fi) (hst : ∀ v S p S', fi v S = .ok p S' → still p.2 S' = true) (st : Snd Γ.T (fun _ _ _ => False) RBo tt ft) (se : Snd Γ.T (fun _ _ _ => False) (RV Γ.T) te fe)
    (hsub : ∀ i ∈ t.slots, i ∈ vs) : Snd Γ.T Γ.E (RV Γ.T) (tLc wi (gT Γ.T.K t) tt te vs) fun e S => (fi e S).bind fun p S => lcRest (lcBody t vs ft fe e) p.2 [] p.1 S := by
  intro w S e σ Q k he h
  refine si w S e σ _ k he (Post.bind k h fun p S1 w1 J hfi hle k1 hJ h1 => ?_)
  have he1 := he.le hle
  have st1 := hst _ _ _ _ hfi
  intro D hD
  have nφ : ∀ {w2 : Wd} {acc : List V}, D ∉ w1.φ := fun {_ _} hm => by
    obtain ⟨o, e⟩ := k1.at_ hm
    rw [e] at hD
    cases hD
  refine ⟨fun i m H => m + i = p.1.length ∧ ∃ (w2 : Wd) (S2 : Store) (acc : List V) (ds : List Pv.D), w2.H = H ∧ w1.le w2 ∧ w2.ok Γ.T S2 ∧ still p.2 S2 = true ∧ w2.H D = some (.lst acc) ∧ D ∉ w2.φ ∧ w2.G D = none ∧ RVs Γ.T w2 ds acc ∧
    Post Γ.T (RV Γ.T) Γ.E w1 (lcRest (lcBody t vs ft fe e) p.2 ds (p.1.drop i) S2) Q, ⟨p.1.length, by omega, ?_⟩, ?_⟩
  · obtain ⟨k2, hx⟩ := k1.grow (o := .lst []) hD
    refine ⟨_, S1, [], [], rfl, hx, k2, st1, upd_same, nφ (w2 := w1) (acc := []), ?_, .nil, h1⟩
    show w1.G D = none
    cases e : w1.G D with
    | none => rfl
    | some u => rw [k1.sub D u e] at hD; cases hD
  · intro i m H hW
    obtain ⟨hm, w2, S2, acc, ds, rfl, hle2, k2, st2, hDa, hDφ, hDG, rs, hP⟩ := hW
    obtain ⟨hgo, hstop⟩ := hJ w2 S2 i hle2 k2 st2
    by_cases hi : i < p.1.length
    · refine .inr ?_
      obtain ⟨x, hx⟩ : ∃ x, p.1[i]? = some x := ⟨p.1[i], List.getElem?_eq_getElem hi⟩
      have hdrop : p.1.drop i = x :: p.1.drop (i + 1) := by
        rw [List.drop_eq_getElem_cons hi]
        rw [List.getElem?_eq_getElem hi] at hx
        cases hx
        rfl
      rw [hdrop] at hP
      obtain ⟨o, S3, hb, st3, hz, hP3⟩ := lcRest_cons hP
      obtain ⟨hgo1, hyld⟩ := hgo x hx
      refine ⟨hgo1, fun H => m - 1 + (i + 1) = p.1.length ∧ _, fun H' hN => ⟨m - 1, by omega, hN⟩, fun v H' hy => ?_⟩
      obtain ⟨w3, hle3, k3, rfl, rx⟩ := hyld v H' hy
      unfold lcBody at hb
      cases hbt : bindT t x (Pv.wipe e vs) with
      | none => rw [hbt] at hb; cases hb
      | some e' =>
        rw [hbt] at hb
        have hb' : ((ft e' S2).bind fun k S => if k then (fe e' S).bind fun d S => .ok (some d) S else .ok none S) = .ok o S3 := hb
        have l12 : w1.le w3 := hle2.trans k1 k2 hle3
        refine bind_to k3 ((he1.le l12).wipe vs) rx hbt fun σ' he' hwipe => ⟨by rw [hwipe vs hsub, wipe_wipe], ?_⟩
        have fin : ∀ (w5 : Wd), w3.le w5 → w5.ok Γ.T S3 → (∀ y d, o = some d → RV Γ.T w5 d y → ∃ acc', w5.H D = some (.lst acc') ∧ acc'.length < sizeLine ∧ (m - 1 + (i + 1) = p.1.length ∧ ∃ (w2 : Wd) (S2 : Store) (acc : List V) (ds : List Pv.D), w2.H = upd w5.H D (.lst (acc' ++ [y])) ∧ w1.le w2 ∧ w2.ok Γ.T S2 ∧ still p.2 S2 = true ∧ w2.H D = some (.lst acc) ∧ D ∉ w2.φ ∧ w2.G D = none ∧ RVs Γ.T w2 ds acc ∧
              Post Γ.T (RV Γ.T) Γ.E w1 (lcRest (lcBody t vs ft fe e) p.2 ds (p.1.drop (i + 1)) S2) Q)) ∧
            (o = none → (m - 1 + (i + 1) = p.1.length ∧ ∃ (w2 : Wd) (S2 : Store) (acc : List V) (ds : List Pv.D), w2.H = w5.H ∧ w1.le w2 ∧ w2.ok Γ.T S2 ∧ still p.2 S2 = true ∧ w2.H D = some (.lst acc) ∧ D ∉ w2.φ ∧ w2.G D = none ∧ RVs Γ.T w2 ds acc ∧
              Post Γ.T (RV Γ.T) Γ.E w1 (lcRest (lcBody t vs ft fe e) p.2 ds (p.1.drop (i + 1)) S2) Q)) := fun w5 hle5 k5 => by
          have l25 : w2.le w5 := hle3.trans k2 k3 hle5
          have l15 : w1.le w5 := hle2.trans k1 k2 l25
          have hDa5 : w5.H D = some (.lst acc) := l25.keep D _ hDa hDφ fun _ q => by cases q
          have hDφ5 : D ∉ w5.φ := fun hm => by
            rcases l25.new D hm with q | q
            · exact hDφ q
            · obtain ⟨_, z⟩ := q _ hDa; cases z
          have hDG5 : w5.G D = none := by
            cases q : w5.G D with
            | none => rfl
            | some u =>
              rcases l25.newG D u q with q | q
              · rw [hDG] at q; cases q
              · obtain ⟨_, z⟩ := q _ hDa; cases z
          refine ⟨fun y d eo ry => ⟨acc, hDa5, ?_, by omega, _, S3, acc ++ [y], ds ++ [d], rfl, le_upd l15 hD, hid_upd k5 hDφ5 hDG5 hDa5, st3, upd_same, hDφ5, hDG5, (Reps.le l25 rs).append (.cons ry .nil), ?_⟩, fun eo => ⟨by omega, w5, S3, acc, ds, rfl, l15, k5, st3, hDa5, hDφ5, hDG5, Reps.le l25 rs, ?_⟩⟩
          · subst eo
            rw [← rs.length, SZ_eq]
            simp at hz
            omega
          · subst eo
            exact hP3
          · subst eo
            simpa using hP3
        refine st w3 S2 e' σ' _ k3 he' ?_
        cases ef : ft e' S2 with
        | err => rw [ef] at hb'; cases hb'
        | stuck => rw [ef] at hb'; cases hb'
        | ok kb Sb =>
          rw [ef] at hb'
          have hb2 : (if kb then (fe e' Sb).bind fun d S => .ok (some d) S else .ok none Sb) = Ro.ok o S3 := hb'
          intro w4 b hle4 k4 eb
          have eb' : kb = b := eb
          subst eb'
          cases kb with
          | true =>
            rw [if_pos rfl] at hb2 ⊢
            refine se w4 Sb e' σ' _ k4 (he'.le hle4) ?_
            cases ee : fe e' Sb with
            | err => rw [ee] at hb2; cases hb2
            | stuck => rw [ee] at hb2; cases hb2
            | ok d Sd =>
              rw [ee] at hb2
              cases hb2
              intro w5 y hle5 k5 ry
              exact (fin w5 (hle4.trans k3 k4 hle5) k5).1 y d rfl ry
          | false =>
            cases hb2
            exact (fin w4 hle4 k4).2 rfl
    · refine .inl ⟨hstop (by omega), ?_⟩
      rw [List.drop_eq_nil_of_le (by omega)] at hP
      unfold lcRest lcLoop at hP
      have hP' : Post Γ.T (RV Γ.T) Γ.E w1 (szD .lst (ds ++ []) S2) Q := hP
      rw [List.append_nil] at hP'
      obtain ⟨_, hP2⟩ := post_sz hP'
      exact hP2 (Wd.mk w2.H (upd w2.G D (.lst acc)) w2.φ) (.ref D) (le_frz hle2 hD hDG) (hid_frz k2 hDφ hDa hDG) (.lst upd_same (rs.mono (fun a u e => by show upd w2.G D (.lst acc) a = some u; rw [upd_ne (ne_of_none e hDG)]; exact e) (Pre.refl _)))
theorem xe_lc (hi : XI Γ tg iter fi) (hg : XG (Γ.blk scope) tg t) (ht : XTs (Γ.blk scope) ifs ft) (he : XE (Γ.blk scope) elt fe) (ok : blkC Γ.N Γ.sc scope own = true) (hsub : ∀ i ∈ t.slots, i ∈ own.map (·.2)) (hs : noSet iter = true) :
    XE Γ (.ListComp elt [⟨tg, iter, ifs, 0⟩] scope pos) fun e S => (fi e S).bind fun p S => lcRest (lcBody t (own.map (·.2)) ft fe e) p.2 [] p.1 S := by
  obtain ⟨wi, pi, si, hst⟩ := hi
  obtain ⟨tt, pt, st⟩ := ht
  obtain ⟨te, pe, se⟩ := he
  refine ⟨tLc wi (gT Γ.T.K t) tt te (own.map (·.2)), fun Y hY => ?_, lc_snd si hst st se hsub⟩
  exact pe_lc rfl hY.nd (pi Y hY) (blkOk_by (by show blkC Γ.N Y.env.scope scope own = true; rw [hY.sc]; exact ok)) (fun s H C cl fp => hg _ (blk_ok hY s H scope cl C fp)) (fun s H C cl fp => pt _ (blk_ok hY s H scope cl C fp)) (fun s H C cl fp => pe _ (blk_ok hY s H scope cl C fp)) (no_set hs _)
end
end Pv
namespace Pv
open PySem L2 PyProof.Rows
def PostS (T : Ks) (E : XK) (w : Wd) (r : Ro Fl) (D : Ends) : Prop := match r with
  | .ok (.nx e) S => ∀ w' σ', w.le w' → w'.ok T S → EnvR T w' e σ' → D.nx σ' w'.H
  | .ok (.bk e) S => ∀ w' σ', w.le w' → w'.ok T S → EnvR T w' e σ' → D.bk σ' w'.H
  | .ok (.ct e) S => ∀ w' σ', w.le w' → w'.ok T S → EnvR T w' e σ' → D.ct σ' w'.H
  | .ok (.rt d) S => ∀ w' v, w.le w' → w'.ok T S → RV T w' d v → D.rt v w'.H
  | .err c as S => ∀ w' dd fs, w.le w' → w'.ok T S → w'.H dd = some (.xd fs) → ErrFs T w' c as fs → E (.ref (T.ecl c)) (some dd) w'.H
  | .stuck => False
section
variable {α β : Type} {T : Ks} {E : XK} {w w1 : Wd} {S S1 : Store} {R : Wd → α → β → Prop} {r : Ro Fl} {D : Ends}
theorem PostS.shift (k : w.ok T S) (k1 : w1.ok T S1) (x : w.le w1) (h : PostS T E w r D) : PostS T E w1 r D := by
  cases r with
  | ok f S' =>
    cases f with
    | nx e => exact fun w' b y o q => h w' b (x.trans k k1 y) o q
    | bk e => exact fun w' b y o q => h w' b (x.trans k k1 y) o q
    | ct e => exact fun w' b y o q => h w' b (x.trans k k1 y) o q
    | rt d => exact fun w' b y o q => h w' b (x.trans k k1 y) o q
  | err c as S' => exact fun w' dd fs y o q z => h w' dd fs (x.trans k k1 y) o q z
  | stuck => exact h
theorem PostS.bind {f : α → Store → Ro Fl} {q : Ro α} {Q : β → Hp → Prop} (k : w.ok T S) (h : PostS T E w (q.bind f) D)
    (g : ∀ a S1 w1 b, q = .ok a S1 → w.le w1 → w1.ok T S1 → R w1 a b → PostS T E w1 (f a S1) D → Q b w1.H) : Post T R E w q Q := by
  cases q with
  | ok a S1 => exact fun w1 b x k1 q => g a S1 w1 b rfl x k1 q (PostS.shift k k1 x h)
  | err c as S' => exact h
  | stuck => exact h
end
abbrev FS := Pv.Env → Store → Ro Fl
def SndS (T : Ks) (E : XK) (t : TS) (f : FS) : Prop := ∀ (w : Wd) (S : Store) (e : Pv.Env) (σ : L2.St) (D : Ends), w.ok T S → EnvR T w e σ → PostS T E w (f e S) D → t D σ w.H
structure Ct.OkS (Γ : Ct) (Y : Dy) : Prop extends Γ.Ok Y where
  own : PassesOwn (model Γ.M.P Γ.M.T.W) Y.A Y.env Y.xe
def XS (Γ : Ct) (st : Stmt) (f : FS) : Prop := ∃ t, (∀ Y, Γ.OkS Y → PS (Γ.cx Y) st t) ∧ SndS Γ.T Γ.E t f
def XSs (Γ : Ct) (st : List Stmt) (f : FS) : Prop := ∃ t, (∀ Y, Γ.OkS Y → PSs (Γ.cx Y) st t) ∧ SndS Γ.T Γ.E t f
theorem XS.to {Γ : Ct} {s : Stmt} {f g : FS} (h : XS Γ s f) (q : ∀ v S, g v S = f v S) : XS Γ s g := by
  have : g = f := funext fun v => funext fun S => q v S
  rw [this]
  exact h
theorem XSs.to {Γ : Ct} {s : List Stmt} {f g : FS} (h : XSs Γ s f) (q : ∀ v S, g v S = f v S) : XSs Γ s g := by
  have : g = f := funext fun v => funext fun S => q v S
  rw [this]
  exact h
section
variable {T : Ks} {E : XK}
/-- a value, then a statement's end -/
theorem SndS.seq {α β : Type} {R : Wd → α → β → Prop} {ta : L2.St → Hp → (β → Hp → Prop) → Prop} {tb : β → TS} {fa : Pv.Env → Store → Ro α} {fb : α → Pv.Env → Store → Ro Fl} (ha : Snd T E R ta fa)
    (hb : ∀ (w : Wd) (S : Store) (e : Pv.Env) (σ : L2.St) (x : α) (v : β) (D : Ends), w.ok T S → EnvR T w e σ → R w x v → PostS T E w (fb x e S) D → tb v D σ w.H) :
    SndS T E (fun D σ H => ta σ H fun v H1 => tb v D σ H1) (fun e S => (fa e S).bind fun x S => fb x e S) :=
  fun w S e σ D k he h => ha w S e σ _ k he (PostS.bind k h fun x S1 w1 v _ hle k1 r h1 => hb w1 S1 e σ x v D k1 (he.le hle) r h1)
end
theorem EnvR.mk' {T : Ks} {w : Wd} {e : Pv.Env} {σ : L2.St} (h : EnvR T w e σ) : EnvR T w e σ := h
/-- what follows a statement that went on -/
def thenS (r : Ro Fl) (g : FS) : Ro Fl := r.bind fun fl S => match fl with
  | .nx e => g e S
  | .bk e => .ok (.bk e) S
  | .ct e => .ok (.ct e) S
  | .rt d => .ok (.rt d) S
theorem blockFn {env : PySem.Env} (hk : env.scope.kind = .function) : env.blockKind = .function := by
  unfold Env.blockKind
  rw [hk]
  rfl
theorem any_star {es : List Expr} (h : es.all notStar = true) (g : Expr → Bool) (hg : ∀ e, notStar e = true → g e = false) : es.any g = false := by
  rw [List.any_eq_false]
  intro e he
  rw [List.all_eq_true] at h
  rw [hg e (h e he)]
  exact Bool.false_ne_true
theorem swap2 {env : PySem.Env} {x y : Str} {px py pt pt2 : Pos} {kt k2 : Nat} {a b : Expr} (hk : env.scope.kind = .function) (hx : env.kindOf x = some .local) (hy : env.kindOf y = some .local) (hxy : (y == x) = false) (hl : (py.line == px.line) = true)
    (hst : [a, b].all notStar = true) (hf : [a, b].all (foldedForSure 8) = false) (hc : [a, b].all (constantsAlone 8) = false) : swappedStores [.Tuple [.Name x px, .Name y py] kt pt] (.Tuple [a, b] k2 pt2) env = pure (some [x, y]) := by
  unfold swappedStores
  simp only
  rw [blockFn hk]
  rw [if_neg (by simp)]
  rw [any_star hst _ (fun e he => by cases e <;> first | rfl | cases he)]
  rw [hf, hc]
  simp only [List.filterMap_cons, List.filterMap_nil, hx, hy, List.head?_cons, Option.map_some, Option.getD_some, Expr.pos, hl]
  simp [hxy, List.eraseDups, List.eraseDupsBy, List.eraseDupsBy.loop]
theorem swap3 {env : PySem.Env} {x y z : Str} {px py pz pt pt2 : Pos} {kt k2 : Nat} {a b c : Expr} (hk : env.scope.kind = .function) (hx : env.kindOf x = some .local) (hy : env.kindOf y = some .local) (hz : env.kindOf z = some .local) (hxy : (y == x) = false) (hxz : (z == x) = false) (hyz : (z == y) = false)
    (hl : (py.line == px.line) = true) (hl2 : (pz.line == px.line) = true)
    (hst : [a, b, c].all notStar = true) (hf : [a, b, c].all (foldedForSure 8) = false) (hc : [a, b, c].all (constantsAlone 8) = false) : swappedStores [.Tuple [.Name x px, .Name y py, .Name z pz] kt pt] (.Tuple [a, b, c] k2 pt2) env = pure (some [x, y, z]) := by
  unfold swappedStores
  simp only
  rw [blockFn hk]
  rw [if_neg (by simp)]
  rw [any_star hst _ (fun e he => by cases e <;> first | rfl | cases he)]
  rw [hf, hc]
  simp only [List.filterMap_cons, List.filterMap_nil, hx, hy, hz, List.head?_cons, Option.map_some, Option.getD_some, Expr.pos, hl, hl2]
  simp [hxy, hxz, hyz, List.eraseDups, List.eraseDupsBy, List.eraseDupsBy.loop]
theorem swapCell2 {env : PySem.Env} {x y : Str} {px py pt pt2 : Pos} {kt k2 : Nat} {a b : Expr} (hk : env.scope.kind = .function) (hx : env.kindOf x = some .cell ∨ env.kindOf y = some .cell) (hl : (py.line == px.line) = true)
    (hst : [a, b].all notStar = true) : swappedStores [.Tuple [.Name x px, .Name y py] kt pt] (.Tuple [a, b] k2 pt2) env = pure none := by
  unfold swappedStores
  simp only
  rw [blockFn hk]
  rw [if_neg (by simp)]
  rw [any_star hst _ (fun e he => by cases e <;> first | rfl | cases he)]
  simp only [List.filterMap_cons, List.filterMap_nil, List.head?_cons, Option.map_some, Option.getD_some, Expr.pos, hl]
  rcases hx with hx | hx
  · rw [hx]
    cases env.kindOf y with
    | none => simp
    | some k => cases k <;> simp
  · rw [hx]
    cases env.kindOf x with
    | none => simp
    | some k => cases k <;> simp
section
variable {Γ : Ct} {a b c o : Expr} {fa fb fc fo : FD} {fs gs : FS} {pos p : Pos} {st : Stmt} {rest sts : List Stmt} {x : Str} {i : Nat}
theorem xss_nil : XSs Γ [] fun e S => .ok (.nx e) S := ⟨_, fun _ _ => pss_nil, fun w S e σ D k he h => h w σ (.refl _) k he⟩
theorem thenS_post {T : Ks} {E : XK} {w : Wd} {S : Store} {r : Ro Fl} {D : Ends} {u : TS} (k : w.ok T S) (su : SndS T E u gs) (h : PostS T E w (thenS r gs) D) : PostS T E w r { D with nx := u D } := by
  cases r with
  | ok f S' =>
    cases f with
    | nx e =>
      intro w' σ' hle k' he'
      exact su w' S' e σ' D k' he' (PostS.shift k k' hle h)
    | bk e => exact h
    | ct e => exact h
    | rt d => exact h
  | err => exact h
  | stuck => exact h
theorem xss_cons (h1 : XS Γ st fs) (h2 : XSs Γ rest gs) : XSs Γ (st :: rest) fun e S => thenS (fs e S) gs := by
  obtain ⟨t, p, s⟩ := h1
  obtain ⟨u, p2, s2⟩ := h2
  exact ⟨tSeq t u, fun Y ok => pss_cons (p Y ok) (p2 Y ok), fun w S e σ D k he h => s w S e σ _ k he (thenS_post k s2 h)⟩
theorem xs_pass : XS Γ (.Pass pos) fun e S => .ok (.nx e) S := ⟨_, fun _ _ => ps_pass, fun w S e σ D k he h => h w σ (.refl _) k he⟩
theorem xs_brk : XS Γ (.Break pos) fun e S => .ok (.bk e) S := ⟨_, fun _ _ => ps_break, fun w S e σ D k he h => h w σ (.refl _) k he⟩
theorem xs_cnt : XS Γ (.Continue pos) fun e S => .ok (.ct e) S := ⟨_, fun _ _ => ps_continue, fun w S e σ D k he h => h w σ (.refl _) k he⟩
def noComp : Expr → Bool
  | .ListComp .. => false
  | .SetComp .. => false
  | .DictComp .. => false
  | _ => true
theorem no_swap {e : Expr} (h : noComp e = true) (t : Option Expr) (l : Nat) (env : PySem.Env) : swapsWith e t l env = pure false := by
  cases e <;> first | rfl | cases h
theorem xs_ex (ha : XE Γ a fa) (hn : noComp a = true) : XS Γ (.Expr a pos) fun e S => (fa e S).bind fun _ S => .ok (.nx e) S := by
  obtain ⟨t, p, s⟩ := ha
  exact ⟨tDrop t, fun Y ok => ps_expr (p Y ok.toOk) (no_swap hn _ _ _), SndS.seq (tb := fun _ D σ H => D.nx σ H) s fun w S e σ x v D k he r h => h w σ (.refl _) k he⟩
theorem xs_ret (ha : XE Γ a fa) : XS Γ (.Return (some a) pos) fun e S => (fa e S).bind fun d S => .ok (.rt d) S := by
  obtain ⟨t, p, s⟩ := ha
  exact ⟨tRet t, fun Y ok => ps_ret (p Y ok.toOk), SndS.seq (tb := fun v D σ H => D.rt v H) s fun w S e σ x v D k he r h => h w v (.refl _) k r⟩
theorem xs_retn : XS Γ (.Return none pos) fun _ S => .ok (.rt .non) S := ⟨_, fun _ _ => ps_retN, fun w S e σ D k he h => h w .non (.refl _) k .non⟩
def ifS (f g : FS) (x : Bool) (e : Pv.Env) (S : Store) : Ro Fl := if x then f e S else g e S
variable {gc : FB}
theorem xs_if {A B : List Stmt} (hc : XT Γ c gc) (hA : XSs Γ A fs) (hB : XSs Γ B gs) : XS Γ (.If c A B pos) fun e S => (gc e S).bind fun x S => ifS fs gs x e S := by
  obtain ⟨tc, pc, sc⟩ := hc
  obtain ⟨ta, pa, sa⟩ := hA
  obtain ⟨tb, pb, sb⟩ := hB
  refine ⟨tIfS tc ta tb, fun Y ok => ps_if (pc Y ok.toOk) (pa Y ok) (pb Y ok), SndS.seq (tb := fun b D σ H1 => if b = true then ta D σ H1 else tb D σ H1) sc fun w S e σ x v D k he r h => ?_⟩
  cases r
  unfold ifS at h
  cases x with
  | true => exact sa w S e σ D k he h
  | false => exact sb w S e σ D k he h
theorem xs_set (hs : StoreOk Γ i x) (ha : XE Γ a fa) (hn : noComp a = true) : XS Γ (.Assign [.Name x p] a pos) fun e S => (fa e S).bind fun d S => .ok (.nx (e.set i (some d))) S := by
  obtain ⟨t, q, s⟩ := ha
  exact ⟨tAsg t (gName i), fun Y ok => ps_set ok.nd hs.1 (hs.loc ok.toOk) (q Y ok.toOk) (no_swap hn _ _ _) (hs.fn ok.toOk), SndS.seq (tb := fun v D σ H => D.nx (σ.set i (some v)) H) s fun w S e σ x v D k he r h => h w _ (.refl _) k (he.set i r)⟩
/-- name = a + b, a live list -/
def catD (x y : D) (S : Store) : Ro D := match x.items S, y.items S with
  | some xs, some ys => if xs.length + ys.length ≤ SZ then .ok (.obj S.length) (S ++ [.lst (xs ++ ys)]) else .stuck
  | _, _ => .stuck
theorem xe_cat (ha : XE Γ a fa) (hb : XE Γ b fb) : XE Γ (.BinOp a .Add b pos) fun e S => (fa e S).bind fun x S => (fb e S).bind fun y S => catD x y S := by
  obtain ⟨ta, pa, sa⟩ := ha
  obtain ⟨tb, pb, sb⟩ := hb
  refine ⟨tOp (rBin Γ.T.K .add) ta tb, fun Y ok => pe_op (op_bin .add) (pa Y ok) (pb Y ok), Snd.two (r := fun x y H Q => rBin Γ.T.K .add x y H Q) sa sb fun w S x y v u Q k rx ry h => ?_⟩
  unfold catD at h
  split at h
  · rename_i xs ys h1 h2
    split at h
    · rename_i hl
      obtain ⟨p, vs, rfl, hp, r1⟩ := items_at k rx h1
      obtain ⟨q, us, rfl, hq, r2⟩ := items_at k ry h2
      exact .inr (.inr (.inr ⟨p, q, vs, us, rfl, rfl, hp, hq, by rw [← r1.length, ← r2.length, SZ_eq]; exact hl, fun a ha => post_nls k (r1.append r2) h a ha⟩))
    · exact h.elim
  · exact h.elim
/-- name = [..], stored within the comprehension -/
theorem xs_setLc {elt tg iter : Expr} {ifs : List Expr} {scope : Scope} {own : List (Str × Nat)} {fi : FI} {t : Tg} {ft : FB} {fe : FD} {lp : Pos} (hN : Γ.N[i]? = some x) (hl : Γ.sc.names.lookup x = some .local)
    (hk : Γ.sc.kind = .function) (hline : (p.line == lp.line) = true) (hown : (scope.names.any fun (n, k) => n == x && (k == .local || k == .cell)) = false)
    (hi : XI Γ tg iter fi) (hg : XG (Γ.blk scope) tg t) (ht : XTs (Γ.blk scope) ifs ft) (he : XE (Γ.blk scope) elt fe) (ok : blkC Γ.N Γ.sc scope own = true) (hsub : ∀ i ∈ t.slots, i ∈ own.map (·.2)) (hs : noSet iter = true) :
    XS Γ (.Assign [.Name x p] (.ListComp elt [⟨tg, iter, ifs, 0⟩] scope lp) pos) fun e S => ((fi e S).bind fun p S => lcRest (lcBody t (own.map (·.2)) ft fe e) p.2 [] p.1 S).bind fun d S => .ok (.nx (e.set i (some d))) S := by
  obtain ⟨wi, pi, si, hst⟩ := hi
  obtain ⟨tt, pt, st⟩ := ht
  obtain ⟨te, pe, se⟩ := he
  refine ⟨tAsg (tLc wi (gT Γ.T.K t) tt te (own.map (·.2))) (gName i), fun Y hY => ?_, SndS.seq (tb := fun v D σ H => D.nx (σ.set i (some v)) H) (lc_snd si hst st se hsub) fun w S e σ x v D k he r h => h w _ (.refl _) k (he.set i r)⟩
  have hY' := hY.toOk
  have hl' : Y.env.scope.names.lookup x = some .local := by rw [hY'.sc]; exact hl
  exact ps_setLc rfl hY'.nd hN hl' (sw_true (by show Y.env.scope.kind = _; rw [hY'.sc]; exact hk) hl' hline hown) (pi Y hY') (blkOk_by (by show blkC Γ.N Y.env.scope scope own = true; rw [hY'.sc]; exact ok)) (fun s H C cl fp => hg _ (blk_ok hY' s H scope cl C fp)) (fun s H C cl fp => pt _ (blk_ok hY' s H scope cl C fp)) (fun s H C cl fp => pe _ (blk_ok hY' s H scope cl C fp)) (no_set hs _)
variable {es ts : List Expr} {is : List Nat} {ga : FL} {kk k2 : Nat} {p2 : Pos}
theorem par_snd {T : Ks} {E : XK} {ta : TA} (sa : Snd T E (RVs T) ta ga) : SndS T E (fun D σ H => ta σ H fun vs H1 => vs.length = is.length ∧ D.nx (putV σ is vs) H1) fun e S => (ga e S).bind fun xs S => if xs.length = is.length then .ok (.nx (setAll e is xs)) S else .stuck :=
  SndS.seq (tb := fun vs D σ H1 => vs.length = is.length ∧ D.nx (putV σ is vs) H1) sa fun w S e σ xs vs D k he rs h => by
    split at h
    · rename_i hl
      exact ⟨by rw [← rs.length]; exact hl, h w _ (.refl _) k (he.setAll rs hl)⟩
    · exact h.elim
/-- three plain local names at once -/
theorem ps_par3 {X : Cx} {i j l : Nat} {x y z : Str} {a b c : Expr} {ta : TA} {px py pz pt : Pos} {kt k2 pt2} (hc : X.calm = true) (hN : X.N.Nodup) (hi : X.N[i]? = some x) (hj : X.N[j]? = some y) (hl : X.N[l]? = some z) (hij : i ≠ j) (hil : i ≠ l) (hjl : j ≠ l)
    (hx : X.env.scope.names.lookup x = some .local) (hy : X.env.scope.names.lookup y =
          some .local) (hz : X.env.scope.names.lookup z = some .local) (ha : PA X [a, b, c] ta)
    (hw : swappedStores [.Tuple [.Name x px, .Name y py, .Name z pz]
          kt pt] (.Tuple [a, b, c] k2 pt2) X.env = pure (some [x, y, z]))
    (hs : swapsWithSole [.Tuple [.Name x px, .Name y py, .Name z pz] kt
          pt] (.Tuple [a, b, c] k2 pt2) pos.line X.env = pure false := by rfl) :
    PS X (.Assign [.Tuple [.Name x px, .Name y py, .Name z pz] kt pt] (.Tuple [a, b, c] k2 pt2) pos) (fun D σ H => ta σ H fun vs H1 => vs.length = 3 ∧ D.nx (putV σ [i, j, l] vs) H1) := by
  (refine ⟨fun pins s σ H D I h => ?_⟩)
  rw [exec_Assign_arm]
  (refine wpAny_bind (wpAny_standAt ?_))
  rw [hs]
  (refine wpAny_bind (wpAny_pure ?_))
  rw [if_neg (by decide)]
  (refine wpAny_bind (Tuple_ (thn (ha.run _ pins s σ H _ I h) fun us s1 ⟨vs, H1, I1, r1, q1⟩ => ?_)))
  obtain ⟨e1, q1⟩ := q1
  obtain ⟨v1, v2, v3, rfl⟩ : ∃ v1 v2 v3, vs = [v1, v2, v3] := by
    match vs, e1 with
    | [v1, v2, v3], _ => exact ⟨_, _, _, rfl⟩
  obtain ⟨u1, u2, u3, rfl, rv1, rv2, rv3⟩ : ∃ u1 u2 u3, us = [u1, u2, u3] ∧ L2.RelV v1 u1 ∧ L2.RelV v2 u2 ∧ L2.RelV v3 u3 := by
    cases r1 with
    | cons p q =>
      cases q with
      | cons p' q' =>
        cases q' with
        | cons p'' q'' =>
        cases q''
        (exact ⟨_, _, _, rfl, p, p', p''⟩)
  (refine wpAny_newObj_type ?_ (by show 3 ≤ sizeLine; decide))
  have I2 : L2.Inv X pins σ H1 { s1 with heap := s1.heap.push { cls := .type "tuple", data := .seq [u1, u2, u3].toArray } } := I1.kept (t' := s1.toks) fun b o e => Heap.get?_push_of_some _ e
  rw [hw]
  (refine wpAny_bind (wpAny_pure ?_))
  (show wpAny (model X.prog X.w) X.A (do rule "assign.swapped-stores"; let items ← unpackItems (.ref s1.heap.objs.size) 3 none; assignInOrder [fun v => bindName X.env z v, fun v => bindName X.env y v, fun v => bindName X.env x v] items.reverse; pure Flow.next) _ _ _)
  (refine wpAny_bind (wpAny_rule (wpAny_bind (unpackItems_tuple (items := #[u1, u2, u3]) (I.ok.hd hc) (IsTup.new s1.heap _) fun h' hx' => ?_))))
  (have I3 := I2.kept (h' := h') (t' := s1.toks) fun b o e => hx' b o (Nat.ne_of_lt (Heap.lt_size e)) e)
  (show wpAny _ _ (assignInOrder [fun v => bindName X.env z v, fun v => bindName X.env y v, fun v => bindName X.env x v] [u3, u2, u1] >>= fun _ => pure Flow.next) _ _ _)
  refine wpAny_bind (assignInOrder_cons (wpAny_bindName (store_ok I3 hN hl (.inl hz) rv3 (fun s2 I4 => ?_) (.inr hz))))
  refine assignInOrder_cons (wpAny_bindName (store_ok I4 hN hj (.inl hy) rv2 (fun s3 I5 => ?_) (.inr hy)))
  refine assignInOrder_cons (wpAny_bindName (store_ok I5 hN hi (.inl hx) rv1 (fun s4 I6 => assignInOrder_nil (wpAny_pure ?_)) (.inr hx)))
  have e : ((σ.set l (some v3)).set j (some v2)).set i (some v1) = putV σ [i, j, l] [v1, v2, v3] := by
    show _ = ((σ.set i (some v1)).set j (some v2)).set l (some v3)
    rw [List.set_comm _ _ (Ne.symm hjl), List.set_comm _ _ (Ne.symm hil), List.set_comm _ _ (Ne.symm hij)]
  rw [e] at I6
  exact ⟨_, H1, I6, q1⟩
end
end Pv
namespace Pv
open PySem L2 PyProof.Rows
section
variable {Γ : Ct} {a b c o ie : Expr} {fa fb fc fo fi : FD} {fs gs : FS} {pos p : Pos} {x y z : Str} {i j l : Nat} {es : List Expr} {is : List Nat} {ga : FL} {kk k2 : Nat} {px py pz pt p2 : Pos}
def parS (is : List Nat) (xs : List D) (e : Pv.Env) (S : Store) : Ro Fl := if xs.length = is.length then .ok (.nx (setAll e is xs)) S else .stuck
theorem kindY {Y : Dy} (ok : Γ.Ok Y) {k : NameKind} (h : Γ.sc.names.lookup x = some k) : Y.env.kindOf x = some k := by
  show Y.env.scope.names.lookup x = some k
  rw [ok.sc]
  exact h
theorem scY {Y : Dy} (ok : Γ.Ok Y) (h : Γ.sc.kind = .function) : Y.env.scope.kind = .function := by rw [ok.sc]; exact h
theorem xs_par2 (ha : XA Γ [a, b] ga) (hi : Γ.N[i]? = some x) (hj : Γ.N[j]? = some y) (hij : i ≠ j) (hx : Γ.sc.names.lookup x = some .local) (hy : Γ.sc.names.lookup y = some .local) (hk : Γ.sc.kind = .function) (hxy : (y == x) = false) (hl : (py.line == px.line) = true)
    (hst : [a, b].all notStar = true) (hf : [a, b].all (foldedForSure 8) = false) (hc : [a, b].all (constantsAlone 8) = false) :
    XS Γ (.Assign [.Tuple [.Name x px, .Name y py] kk pt] (.Tuple [a, b] k2 p2) pos) fun e S => (ga e S).bind fun xs S => parS [i, j] xs e S := by
  obtain ⟨ta, pa, sa⟩ := ha
  refine ⟨tPar i j ta, fun Y ok => ps_par rfl ok.nd hi hj hij (kindY ok.toOk hx) (kindY ok.toOk hy) (pa Y ok.toOk) (swap2 (scY ok.toOk hk) (kindY ok.toOk hx) (kindY ok.toOk hy) hxy hl hst hf hc), ?_⟩
  refine SndS.seq (tb := fun vs D σ H1 => ∃ v w, vs = [v, w] ∧ D.nx ((σ.set i (some v)).set j (some w)) H1) sa fun w S e σ xs vs D k he rs h => ?_
  unfold parS at h
  split at h
  · rename_i hl
    cases rs with
    | nil => cases hl
    | cons r1 rs =>
    cases rs with
    | nil => cases hl
    | cons r2 rs =>
    cases rs with
    | cons => cases hl
    | nil => exact ⟨_, _, rfl, h w _ (.refl _) k ((he.set i r1).set j r2)⟩
  · exact h.elim
theorem xs_par3 (ha : XA Γ [a, b, c] ga) (hi : Γ.N[i]? = some x) (hj : Γ.N[j]? = some y) (hl : Γ.N[l]? = some z) (hij : i ≠ j) (hil : i ≠ l) (hjl : j ≠ l) (hx : Γ.sc.names.lookup x = some .local) (hy : Γ.sc.names.lookup y = some .local) (hz : Γ.sc.names.lookup z = some .local) (hk : Γ.sc.kind = .function)
    (hxy : (y == x) = false) (hxz : (z == x) = false) (hyz : (z == y) = false) (hl1 : (py.line == px.line) = true) (hl2 : (pz.line == px.line) = true)
    (hst : [a, b, c].all notStar = true) (hf : [a, b, c].all (foldedForSure 8) = false) (hc : [a, b, c].all (constantsAlone 8) = false) :
    XS Γ (.Assign [.Tuple [.Name x px, .Name y py, .Name z pz] kk pt] (.Tuple [a, b, c] k2 p2) pos) fun e S => (ga e S).bind fun xs S => parS [i, j, l] xs e S := by
  obtain ⟨ta, pa, sa⟩ := ha
  refine ⟨_, fun Y ok => ps_par3 rfl ok.nd hi hj hl hij hil hjl (kindY ok.toOk hx) (kindY ok.toOk hy) (kindY ok.toOk hz) (pa Y ok.toOk) (swap3 (scY ok.toOk hk) (kindY ok.toOk hx) (kindY ok.toOk hy) (kindY ok.toOk hz) hxy hxz hyz hl1 hl2 hst hf hc), ?_⟩
  exact par_snd (is := [i, j, l]) sa
/-- a, b = x, y with a name that is a cell: the pair is made, then taken apart -/
theorem xs_parC (ha : XA Γ [a, b] ga) (hi : StoreOk Γ i x) (hj : StoreOk Γ j y) (hk : Γ.sc.kind = .function) (hxy : Γ.sc.names.lookup x = some .cell ∨ Γ.sc.names.lookup y = some .cell) (hl : (py.line == px.line) = true) (hst : [a, b].all notStar = true) :
    XS Γ (.Assign [.Tuple [.Name x px, .Name y py] kk pt] (.Tuple [a, b] k2 p2) pos) fun e S => (ga e S).bind fun xs S => parS [i, j] xs e S := by
  obtain ⟨ta, pa, sa⟩ := ha
  have hN : NamesOk Γ [i, j] [.Name x px, .Name y py] := ⟨hi, hj, trivial⟩
  refine ⟨tAsg (tTup ta) (gT Γ.T.K (.tp [i, j])), fun Y ok => ps_asg (pe_tup (pa Y ok.toOk)) (xg_tp hN Y ok.toOk) (by rfl) (swapCell2 (scY ok.toOk hk) (by rcases hxy with h | h; exact .inl (kindY ok.toOk h); exact .inr (kindY ok.toOk h)) hl hst) (by rfl), ?_⟩
  refine SndS.seq (tb := fun vs D σ H1 => vs.length ≤ sizeLine ∧ ∀ p, H1 p = none → gT Γ.T.K (.tp [i, j]) (.ref p) σ (upd H1 p (.tup vs)) D.nx) sa fun w S e σ xs vs D k he rs h => ?_
  unfold parS at h
  split at h
  · rename_i hl
    have hv : vs.length = 2 := by rw [← rs.length]; exact hl
    refine ⟨by rw [hv, SZ_eq]; decide, fun p hp => ?_⟩
    obtain ⟨k1, hx⟩ := k.freeze (o := .tup vs) hp
    exact ⟨p, vs, rfl, SqT.of upd_same, hv, gNames_to hv (h _ _ hx k1 ((he.le hx).setAll (Reps.le hx rs) hl))⟩
  · exact h.elim
def noTup : Expr → Bool
  | .Tuple .. => false
  | _ => true
theorem no_swapS {t e : Expr} {l : Nat} {env : PySem.Env} (h : noComp e = true) : swapsWithSole [t] e l env = pure false := no_swap h _ _ _
theorem swap_none {t e : Expr} {env : PySem.Env} (h : noTup e = true) : swappedStores [t] e env = pure none := by
  unfold swappedStores
  cases e <;> first | (cases h; done) | (cases t <;> rfl)
/-- a, b = e -/
theorem xs_unp {ts : List Expr} (ha : XE Γ a fa) (hN : NamesOk Γ is ts) (ht : noTup a = true) (hn : noComp a = true) : XS Γ (.Assign [.Tuple ts kk pt] a pos) fun e S => (fa e S).bind fun x S => (Ro.opt (bindT (.tp is) x e) S).bind fun e S => .ok (.nx e) S := by
  obtain ⟨ta, pa, sa⟩ := ha
  refine ⟨tAsg ta (gT Γ.T.K (.tp is)), fun Y ok => ps_asg (pa Y ok.toOk) (xg_tp hN Y ok.toOk) (no_swapS hn) (swap_none ht) (by rfl), ?_⟩
  refine SndS.seq (tb := fun x D σ H1 => gT Γ.T.K (.tp is) x σ H1 D.nx) sa fun w S e σ x v D k he rx h => ?_
  cases hb : bindT (.tp is) x e with
  | none => rw [hb] at h; exact h.elim
  | some e' =>
    rw [hb] at h
    exact bind_to k he rx hb fun σ' he' _ => h w σ' (.refl _) k he'
def augOk : Op → Bool
  | .add => true | .sub => true | _ => false
def rAug : Op → TIp
  | .sub => ipI fun i j => i - j
  | _ => ipI fun i j => i + j
theorem ip_aug {X : Cx} : ∀ o, augOk o = true → PIp X (oBin o) (rAug o)
  | .add, _ => ip_add
  | .sub, _ => ip_sub
theorem aug_leaf {T : Ks} {E : XK} {w : Wd} {S : Store} {x y : D} {v u : V} {Q : VK} (o : Op) (ho : augOk o = true) (k : w.ok T S) (rx : RV T w x v) (ry : RV T w y u) (h : Post T (RV T) E w (augD o x y S) Q) : rAug o v u w.H Q := by
  unfold augD at h
  split at h
  · cases rx; cases ry
    cases o <;> first | (cases ho; done) | exact ⟨_, _, rfl, rfl, post_val k (.int _) h⟩
  · exact h.elim
theorem xs_aug (q : Op) (hq : augOk q = true) (hs : StoreOk Γ i x) (ha : XE Γ a fa) : XS Γ (.AugAssign (.Name x p) (oBin q) a pos) fun e S => (Ro.opt (e.get i) S).bind fun x S => (fa e S).bind fun y S => (augD q x y S).bind fun z S => .ok (.nx (e.set i (some z))) S := by
  obtain ⟨ta, pa, sa⟩ := ha
  refine ⟨tAug i ta (rAug q), fun Y ok => ps_aug ok.nd hs.1 (hs.loc ok.toOk) (pa Y ok.toOk) (ip_aug q hq) (hs.fn ok.toOk), fun w S e σ D k he h => ?_⟩
  have h : PostS Γ.T Γ.E w ((Ro.opt (e.get i) S).bind fun x S => (fa e S).bind fun y S => (augD q x y S).bind fun z S => .ok (.nx (e.set i (some z))) S) D := h
  cases hg : e.get i with
  | none => rw [hg] at h; exact h.elim
  | some d =>
    rw [hg] at h
    have h' : PostS Γ.T Γ.E w ((fa e S).bind fun y S => (augD q d y S).bind fun z S => .ok (.nx (e.set i (some z))) S) D := h
    obtain ⟨v, hv, rv⟩ := he.get hg
    refine ⟨v, hv, sa w S e σ _ k he (PostS.bind k h' fun y S1 w1 u _ hle k1 ry h1 => ?_)⟩
    exact aug_leaf q hq k1 (Rep.le hle rv) ry (PostS.bind k1 h1 fun z S2 w2 u2 _ hle2 k2 rz h2 => h2 w2 _ (.refl _) k2 (((he.le hle).le hle2).set i rz))
theorem sti_assign {i : Expr} (h : plainIx i = true) (env : PySem.Env) (v : Value) : assign (.Subscript o i p) env v = (do
      let ov ← holding
            [v] (eval o env)
      let iv ← holding
            [v, ov] (eval i env)
      standAt p
      holding [v, ov, iv]
            (setItem ov iv v)
      release [v, ov, iv] []) := by
  cases i <;> first | rfl | cases h
theorem sti_inv {S S' : Store} {x k d : D} (h : stiD S x k d = some S') : ∃ n i xs j, x = .obj n ∧ k = .int i ∧ S[n]? = some (.lst xs) ∧ Pv.ixN xs.length i = some j ∧ S' = S.set n (.lst (xs.set j d)) := by
  unfold stiD at h
  split at h
  · split at h
    · split at h
      · cases h
        exact ⟨_, _, _, _, rfl, rfl, by assumption, by assumption, rfl⟩
      · cases h
    · cases h
  · cases h
theorem xs_sti (ha : XE Γ a fa) (ho : XE Γ o fo) (hi : XE Γ ie fi) (hp : plainIx ie = true) (ht : noTup a = true) (hn : noComp a = true) :
    XS Γ (.Assign [.Subscript o ie p] a pos) fun e S => (fa e S).bind fun d S => (fo e S).bind fun x S => (fi e S).bind fun k S => stiS x k d e S := by
  obtain ⟨ta, pa, sa⟩ := ha
  obtain ⟨to, po, so⟩ := ho
  obtain ⟨ti, pi, si⟩ := hi
  refine ⟨tAsg ta (gSub to ti rSetL), fun Y ok => ps_asg (pa Y ok.toOk) (pg_sub (po Y ok.toOk) (pi Y ok.toOk) set_list (sti_assign hp _)) (no_swapS hn) (swap_none ht) (by rfl), ?_⟩
  refine SndS.seq (tb := fun v D σ H => to σ H fun o H1 => ti σ H1 fun i H2 => rSetL o i v H2 fun H3 => D.nx σ H3) sa fun w S e σ d v D k he rd h => ?_
  refine so w S e σ _ k he (PostS.bind k h fun x S1 w1 u _ hle k1 rx h1 => ?_)
  refine si w1 S1 e σ _ k1 (he.le hle) (PostS.bind k1 h1 fun q S2 w2 u2 _ hle2 k2 rq h2 => ?_)
  have rx2 := Rep.le hle2 rx
  have rd2 := Rep.le hle2 (Rep.le hle rd)
  have he2 := (he.le hle).le hle2
  unfold stiS at h2
  cases hd : stiD S2 x q d with
  | none => rw [hd] at h2; exact h2.elim
  | some S3 =>
    rw [hd] at h2
    obtain ⟨n, kn, xs, j, rfl, rfl, hS, hj, rfl⟩ := sti_inv hd
    cases rq
    cases rx2 with
    | obj hn =>
    cases k2.cell n _ _ hn hS with
    | lst hH rs =>
      obtain ⟨k3, hx⟩ := k2.put (o := .lst (_)) (c := .lst (xs.set j d)) hn (.lst upd_same (rs.set rd2 j))
      exact ⟨_, _, kn, j, rfl, rfl, hH, by rw [← rs.length]; exact hj, h2 _ σ hx k3 (he2.le hx)⟩
theorem sfl_inv {S S' : Store} {x d : D} {f : Nat} (h : sflD S x f d = some S') : ∃ n c fs, x = .obj n ∧ S[n]? = some (.ins c fs) ∧ fs.length < 900 ∧ S' = S.set n (.ins c (Pv.putF f d fs)) := by
  unfold sflD at h
  split at h
  · split at h
    · split at h
      · cases h
        exact ⟨_, _, _, rfl, by assumption, by assumption, rfl⟩
      · cases h
    · cases h
  · cases h
theorem sfl_go {T : Ks} {E : XK} {w : Wd} {S : Store} {e : Pv.Env} {σ : L2.St} {x d : D} {v u : V} {f : Nat} {D : Ends} (inj : ∀ f g, T.fld f = T.fld g → f = g) (hC : ∀ c, Cls T.K (T.cls c)) (hA : ∀ c, NoAttr T.K (T.cls c) (T.fld f))
    (k : w.ok T S) (he : EnvR T w e σ) (rx : RV T w x v) (rd : RV T w d u) (h : PostS T E w (sflS x f d e S) D) :
    ∃ a C dx fs, v = .ref a ∧ w.H a = some (.ins C dx fs) ∧ Cls T.K C ∧ NoAttr T.K C (T.fld f) ∧ fs.length < 1000 ∧ D.nx σ (upd w.H a (.ins C dx (L2.putF (T.fld f) u fs))) := by
  unfold sflS at h
  cases hd : sflD S x f d with
  | none => rw [hd] at h; exact h.elim
  | some S' =>
    rw [hd] at h
    obtain ⟨n, c, fs, rfl, hS, hl, rfl⟩ := sfl_inv hd
    cases rx with
    | obj hn =>
    cases k.cell n _ _ hn hS with
    | ins hH hn2 rs =>
      obtain ⟨h3, h4⟩ := putF_rep inj rd hn2 rs
      obtain ⟨k3, hx⟩ := k.put (o := .ins (T.cls c) _ (L2.putF (T.fld f) u _)) (c := .ins c (Pv.putF f d fs)) hn (.ins upd_same h3 h4)
      refine ⟨_, _, _, _, rfl, hH, hC c, hA c, ?_, h _ σ hx k3 (he.le hx)⟩
      have := congrArg List.length hn2
      simp at this
      omega
theorem swap_attr {e : Expr} {f : Str} {l : Nat} {env : PySem.Env} : swapsWith e (some (.Attribute o f p)) l env = pure false := by cases e <;> rfl
theorem xs_sfl {f : Nat} (inj : ∀ f g, Γ.T.fld f = Γ.T.fld g → f = g) (hC : ∀ c, Cls Γ.T.K (Γ.T.cls c)) (hA : ∀ c, NoAttr Γ.T.K (Γ.T.cls c) (Γ.T.fld f)) (ha : XE Γ a fa) (ho : XE Γ o fo) :
    XS Γ (.Assign [.Attribute o (Γ.T.fld f) p] a pos) fun e S => (fa e S).bind fun d S => (fo e S).bind fun x S => sflS x f d e S := by
  obtain ⟨ta, pa, sa⟩ := ha
  obtain ⟨to, po, so⟩ := ho
  refine ⟨sFld Γ.T.K to ta (Γ.T.fld f), fun Y ok => ps_fld (po Y ok.toOk) (pa Y ok.toOk) swap_attr, ?_⟩
  refine SndS.seq (tb := fun y D σ H1 => to σ H1 fun x H2 => ∃ a C dx fs, x = .ref a ∧ H2 a = some (.ins C dx fs) ∧ Cls Γ.T.K C ∧ NoAttr Γ.T.K C (Γ.T.fld f) ∧ fs.length < 1000 ∧ D.nx σ (upd H2 a (.ins C dx (L2.putF (Γ.T.fld f) y fs)))) sa fun w S e σ d v D k he rd h => ?_
  exact so w S e σ _ k he (PostS.bind k h fun x S1 w1 u _ hle k1 rx h1 => sfl_go inj hC hA k1 (he.le hle) rx (Rep.le hle rd) h1)
def rAugF : Op → V → V → Hp → VK → Prop
  | .sub => rSub
  | _ => rAdd
theorem in_aug {X : Cx} : ∀ o, augOk o = true → InOp X (oBin o) (rAugF o)
  | .add, _ => in_add
  | .sub, _ => in_sub
theorem augF_leaf {T : Ks} {E : XK} {w : Wd} {S : Store} {x y : D} {v u : V} {Q : VK} (o : Op) (ho : augOk o = true) (k : w.ok T S) (rx : RV T w x v) (ry : RV T w y u) (h : Post T (RV T) E w (augD o x y S) Q) : rAugF o v u w.H Q := by
  unfold augD at h
  split at h
  · cases rx; cases ry
    cases o <;> first | (cases ho; done) | exact ⟨_, _, rfl, rfl, post_val k (.int _) h⟩
  · exact h.elim
theorem fldC_inv {S : Store} {x : D} {f : Nat} {p : Nat × D} (h : fldC S x f = some p) : ∃ n fs, x = .obj n ∧ S[n]? = some (.ins p.1 fs) ∧ fs.lookup f = some p.2 := by
  unfold fldC at h
  split at h
  · split at h
    · obtain ⟨d, h1, h2⟩ := Option.map_eq_some_iff.mp h
      subst h2
      exact ⟨_, _, rfl, by assumption, h1⟩
    · cases h
  · cases h
theorem xs_afl {f : Nat} (q : Op) (hq : augOk q = true) (inj : ∀ f g, Γ.T.fld f = Γ.T.fld g → f = g) (hC : ∀ c, Cls Γ.T.K (Γ.T.cls c)) (hA : ∀ c, NoAttr Γ.T.K (Γ.T.cls c) (Γ.T.fld f)) (ho : XE Γ o fo) (ha : XE Γ a fa) :
    XS Γ (.AugAssign (.Attribute o (Γ.T.fld f) p) (oBin q) a pos) fun e S => (fo e S).bind fun x S => (Ro.opt (fldC S x f) S).bind fun y S => (fa e S).bind fun z S => (augD q y.2 z S).bind fun d S => if isCls S x y.1 then sflS x f d e S else .stuck := by
  obtain ⟨ta, pa, sa⟩ := ha
  obtain ⟨to, po, so⟩ := ho
  refine ⟨sFldAug Γ.T.K to ta (rAugF q) (Γ.T.fld f), fun Y ok => ps_fldaug (po Y ok.toOk) (pa Y ok.toOk) (in_aug q hq), ?_⟩
  refine SndS.seq (tb := fun x D σ H1 => ∃ a C dx fs v, x = .ref a ∧ H1 a = some (.ins C dx fs) ∧ Cls Γ.T.K C ∧ NoAttr Γ.T.K C (Γ.T.fld f) ∧ fs.lookup (Γ.T.fld f) = some v ∧
    ta σ H1 fun y H2 => rAugF q v y H2 fun z H3 => ∃ dx' fs', H3 a = some (.ins C dx' fs') ∧ fs'.length < 1000 ∧ D.nx σ (upd H3 a (.ins C dx' (L2.putF (Γ.T.fld f) z fs')))) so fun w S e σ x v D k he rx h => ?_
  cases hf : fldC S x f with
  | none => rw [hf] at h; exact h.elim
  | some y =>
    rw [hf] at h
    have h0 : PostS Γ.T Γ.E w ((fa e S).bind fun z S => (augD q y.2 z S).bind fun d S => if isCls S x y.1 then sflS x f d e S else .stuck) D := h
    obtain ⟨n, fs, rfl, hS, hl⟩ := fldC_inv hf
    have rx0 := rx
    cases rx with
    | @obj ad _ hn =>
    cases k.cell n _ _ hn hS with
    | ins h1 h2 r =>
      obtain ⟨u, h3, ru⟩ := fld_look inj h2 r hl
      refine ⟨_, _, _, _, u, rfl, h1, hC y.1, hA y.1, h3, sa w S e σ _ k he (PostS.bind k h0 fun z S1 w1 v1 _ hle k1 rz g1 => ?_)⟩
      refine augF_leaf q hq k1 (Rep.le hle ru) rz (PostS.bind k1 g1 fun d S2 w2 v2 _ hle2 k2 rd g2 => ?_)
      split at g2
      · rename_i hc
        obtain ⟨n', fs2, e1, hS2⟩ := cls_inv hc
        cases e1
        have hn2 : w2.φ[n]? = some ad := hle2.pre _ _ (hle.pre _ _ hn)
        unfold sflS at g2
        cases hd : sflD S2 (.obj n) f d with
        | none => rw [hd] at g2; exact g2.elim
        | some S3 =>
          rw [hd] at g2
          obtain ⟨n3, c3, fs3, e3, hS3, hl3, rfl⟩ := sfl_inv hd
          cases e3
          rw [hS2] at hS3
          cases hS3
          cases k2.cell n _ _ hn2 hS2 with
          | ins hH hN rs =>
            obtain ⟨h5, h6⟩ := putF_rep inj rd hN rs
            obtain ⟨k3, hx⟩ := k2.put (o := .ins (Γ.T.cls y.1) _ (L2.putF (Γ.T.fld f) v2 _)) (c := .ins y.1 (Pv.putF f d fs2)) hn2 (.ins upd_same h5 h6)
            refine ⟨_, _, hH, ?_, g2 _ σ hx k3 (((he.le hle).le hle2).le hx)⟩
            have := congrArg List.length hN
            simp at this
            omega
      · exact g2.elim
end
end Pv
namespace Pv
open PySem L2 PyProof.Rows
def whlB (c : FB) (b : FS) : Nat → Pv.Env → Store → Ro Fl
  | 0, _, _ => .stuck
  | n + 1, e, S => (c e S).bind fun k S1 => if k then (b e S1).bind fun fl S2 => match fl with
      | .nx e => whlB c b n e S2
      | .ct e => whlB c b n e S2
      | .bk e => .ok (.nx e) S2
      | .rt d => .ok (.rt d) S2
    else .ok (.nx e) S1
theorem whl_eq (c : Pv.Env → Store → Ro D) (b : FS) : ∀ (n : Nat) (e : Pv.Env) (S : Store), whlLoop c b n e S = whlB (fun e S => toB (c e S)) b n e S
  | 0, _, _ => rfl
  | n + 1, e, S => by
    unfold whlLoop whlB
    cases c e S with
    | err => rfl
    | stuck => rfl
    | ok d S1 =>
      cases d with
      | bl k =>
        cases k with
        | false => rfl
        | true =>
          show (b e S1).bind _ = (b e S1).bind _
          congr 1
          funext fl S2
          cases fl with
          | nx e => exact whl_eq c b n e S2
          | ct e => exact whl_eq c b n e S2
          | bk e => rfl
          | rt d => rfl
      | _ => rfl
section
variable {Γ : Ct} {a b c o ie : Expr} {fa fb fc fo fi : FD} {fs gs : FS} {pos p : Pos} {x y z : Str} {i j l : Nat} {es : List Expr} {is : List Nat} {ga : FL} {gc : FB} {body : List Stmt}
/-- a loop's turn: what is wanted behind its body -/
theorem turn_post {T : Ks} {E : XK} {w w1 : Wd} {S S1 : Store} {r : Ro Fl} {D : Ends} {g : FS} {N : L2.St → Hp → Prop} (k : w.ok T S) (k1 : w1.ok T S1) (hle : w.le w1)
    (h : PostS T E w (r.bind fun fl S2 => match fl with | .nx e => g e S2 | .ct e => g e S2 | .bk e => .ok (.nx e) S2 | .rt d => .ok (.rt d) S2) D)
    (hN : ∀ (w' : Wd) (S' : Store) (e : Pv.Env) (σ' : L2.St), w.le w' → w'.ok T S' → EnvR T w' e σ' → PostS T E w (g e S') D → N σ' w'.H) : PostS T E w1 r { D with nx := N, ct := N, bk := D.nx } := by
  cases r with
  | ok f S' =>
    cases f with
    | nx e => exact fun w' σ' h2 k2 he => hN w' S' e σ' (hle.trans k k1 h2) k2 he h
    | ct e => exact fun w' σ' h2 k2 he => hN w' S' e σ' (hle.trans k k1 h2) k2 he h
    | bk e => exact fun w' σ' h2 k2 he => h w' σ' (hle.trans k k1 h2) k2 he
    | rt d => exact fun w' σ' h2 k2 he => h w' σ' (hle.trans k k1 h2) k2 he
  | err c as S' => exact fun w' dd fs h2 k2 he => h w' dd fs (hle.trans k k1 h2) k2 he
  | stuck => exact h
theorem xs_whl (hc : XT Γ c gc) (hb : XSs Γ body fs) : XS Γ (.While c body [] pos) fun e S => whlB gc fs FUEL e S := by
  obtain ⟨tc, pc, sc⟩ := hc
  obtain ⟨tb, pb, sb⟩ := hb
  refine ⟨tWhile tc tb, fun Y ok => ps_while ok.own (pc Y ok.toOk) (pb Y ok), fun w S e σ D k he h => ?_⟩
  refine ⟨fun m σ H => ∃ (w1 : Wd) (S1 : Store) (e1 : Pv.Env), w1.H = H ∧ w.le w1 ∧ w1.ok Γ.T S1 ∧ EnvR Γ.T w1 e1 σ ∧ PostS Γ.T Γ.E w (whlB gc fs m e1 S1) D, ⟨FUEL, w, S, e, rfl, .refl _, k, he, h⟩, ?_⟩
  intro m σ1 H1 hW
  obtain ⟨w1, S1, e1, rfl, hle, k1, he1, h1⟩ := hW
  cases m with
  | zero => exact h1.elim
  | succ n =>
    unfold whlB at h1
    refine sc w1 S1 e1 σ1 _ k1 he1 (PostS.bind k1 (PostS.shift k k1 hle h1) fun q S2 w2 q' hq hle2 k2 rq _ => ?_)
    cases rq
    have l02 := hle.trans k k1 hle2
    have h2 : PostS Γ.T Γ.E w (if q then (fs e1 S2).bind fun fl S2 => match fl with
      | .nx e => whlB gc fs n e S2
      | .ct e => whlB gc fs n e S2
      | .bk e => .ok (.nx e) S2
      | .rt d => .ok (.rt d) S2
    else .ok (.nx e1) S2) D := by rw [hq] at h1; exact h1
    cases q with
    | false => exact h2 w2 σ1 l02 k2 (he1.le hle2)
    | true =>
      rw [if_pos rfl] at h2 ⊢
      refine ⟨fun σ' H' => ∃ m', m' < n + 1 ∧ ∃ (w1 : Wd) (S1 : Store) (e1 : Pv.Env), w1.H = H' ∧ w.le w1 ∧ w1.ok Γ.T S1 ∧ EnvR Γ.T w1 e1 σ' ∧ PostS Γ.T Γ.E w (whlB gc fs m' e1 S1) D, fun _ _ h => h, ?_⟩
      refine sb w2 S2 e1 σ1 _ k2 (he1.le hle2) (turn_post (g := fun e S => whlB gc fs n e S) k k2 l02 h2 fun w' S' e' σ' hl' k' he' h' => ⟨n, Nat.lt_succ_self _, w', S', e', rfl, hl', k', he', h'⟩)
def forBody (t : Tg) (f : FS) (x : D) (e : Pv.Env) (S : Store) : Ro Fl := (Ro.opt (bindT t x e) S).bind fun e S => f e S
variable {tg iter : Expr} {fI : FI} {t : Tg}
theorem xs_for (hi : XI Γ tg iter fI) (hg : XG Γ tg t) (hb : XSs Γ body fs) (hs : noSet iter = true) : XS Γ (.For tg iter body [] pos) fun e S => (fI e S).bind fun p S => forLoop (forBody t fs) p.2 p.1 e S := by
  obtain ⟨wi, pi, si, hst⟩ := hi
  obtain ⟨tb, pb, sb⟩ := hb
  refine ⟨tFor wi (gT Γ.T.K t) tb, fun Y ok => ps_for ok.own rfl (pi Y ok.toOk) (hg Y ok.toOk) (pb Y ok) (no_set hs _), fun w0 S0 e0 σ0 D k0 he0 h0 => ?_⟩
  refine si w0 S0 e0 σ0 _ k0 he0 (PostS.bind k0 h0 fun p S w J hfi hle0 k hJ h => ?_)
  have st0 := hst _ _ _ _ hfi
  have he := he0.le hle0
  refine ⟨fun i m σ H => m + i = p.1.length ∧ ∃ (w1 : Wd) (S1 : Store) (e1 : Pv.Env), w1.H = H ∧ w.le w1 ∧ w1.ok Γ.T S1 ∧ EnvR Γ.T w1 e1 σ ∧ still p.2 S1 = true ∧ PostS Γ.T Γ.E w (forLoop (forBody t fs) p.2 (p.1.drop i) e1 S1) D,
    ⟨p.1.length, by omega, w, S, e0, rfl, .refl _, k, he, st0, h⟩, ?_⟩
  intro i m σ1 H1 hW
  obtain ⟨hm, w1, S1, e1, rfl, hle, k1, he1, st1, h1⟩ := hW
  obtain ⟨hgo, hstop⟩ := hJ w1 S1 i hle k1 st1
  by_cases hil : i < p.1.length
  · refine .inr ?_
    obtain ⟨x, hx⟩ : ∃ x, p.1[i]? = some x := ⟨p.1[i], List.getElem?_eq_getElem hil⟩
    have hdrop : p.1.drop i = x :: p.1.drop (i + 1) := by
      rw [List.drop_eq_getElem_cons hil]
      rw [List.getElem?_eq_getElem hil] at hx
      cases hx
      rfl
    rw [hdrop] at h1
    obtain ⟨hgo1, hyld⟩ := hgo x hx
    refine ⟨hgo1, fun σ' H' => ∃ m', m' < m ∧ (m' + (i + 1) = p.1.length ∧ ∃ (w1 : Wd) (S1 : Store) (e1 : Pv.Env), w1.H = H' ∧ w.le w1 ∧ w1.ok Γ.T S1 ∧ EnvR Γ.T w1 e1 σ' ∧ still p.2 S1 = true ∧ PostS Γ.T Γ.E w (forLoop (forBody t fs) p.2 (p.1.drop (i + 1)) e1 S1) D), fun _ _ h => h, fun v H' hy => ?_⟩
    obtain ⟨w3, hle3, k3, rfl, rx⟩ := hyld v H' hy
    have l13 := hle.trans k k1 hle3
    unfold forLoop at h1
    cases hbt : bindT t x e1 with
    | none => unfold forBody at h1; rw [hbt] at h1; exact h1.elim
    | some e' =>
      have h2 : PostS Γ.T Γ.E w ((fs e' S1).bind fun fl S2 => match fl with
        | .nx e => if still p.2 S2 then forLoop (forBody t fs) p.2 (p.1.drop (i + 1)) e S2 else .stuck
        | .ct e => if still p.2 S2 then forLoop (forBody t fs) p.2 (p.1.drop (i + 1)) e S2 else .stuck
        | .bk e => .ok (.nx e) S2
        | .rt d => .ok (.rt d) S2) D := by unfold forBody at h1; rw [hbt] at h1; exact h1
      refine bind_to k3 (he1.le hle3) rx hbt fun σ' he' _ => ?_
      refine sb w3 S1 e' σ' _ k3 he' (turn_post (g := fun e S2 => if still p.2 S2 then forLoop (forBody t fs) p.2 (p.1.drop (i + 1)) e S2 else .stuck) k k3 l13 h2 fun w' S' e2 σ2 hl' k' he2 h' => ?_)
      split at h'
      · rename_i hs'
        exact ⟨m - 1, by omega, by omega, w', S', e2, rfl, hl', k', he2, hs', h'⟩
      · exact h'.elim
  · refine .inl ⟨hstop (by omega), ?_⟩
    rw [List.drop_eq_nil_of_le (by omega)] at h1
    exact h1 w1 σ1 hle k1 he1
/-- the __init__ of an error with one field -/
def spIni (C : Addr) (f : Str) : Sp := fun vs H Q _ => ∃ a y, vs = [.ref a, y] ∧ H a = some (exo a C none) ∧ ∀ dx, H dx = none → dx ≠ a → Q .non (upd (upd H dx (exd dx [(f, y)])) a (exo a C (some dx)))
structure ErrGood (M : Gm) (c : Nat) (x f : Str) : Prop where
  oex : OexC M.T.K (M.T.ecl c)
  fl : M.T.efl c = [f]
  ex : ∃ (fI : Addr) (fd : FuncData) (ps : List Str), PySem.W.findIn M.T.K (.ref (M.T.ecl c)) "__init__" = some (some (.ref fI)) ∧ PySem.W.typeIn M.T.K (.ref fI) = some (.type "function") ∧
    FnOk M.P M.T.W M.T.K M.mg M.base M.cx 1 fI fd ps (spIni (M.T.ecl c) f) ∧ Binds M.T.K fd ps []
  at_ : M.mg x = some (.ref (M.T.ecl c))
theorem upd_nochange {H : Hp} {a : Addr} {o : HO} (h : H a = none) : del (upd H a o) a = H := by
  funext b
  unfold del
  by_cases e : b = a
  · subst e
    simp [h]
  · simp [e, upd_ne e]
theorem xs_rse {pc : Pos} {c : Nat} {f : Str} (G : ErrGood Γ.M c x f) (ha : XE Γ a fa) (hg : Γ.sc.names.lookup x = some .globalImplicit) (hd : (x == ("__debug__" : Str)) = false) (hs : notStar a = true) :
    XS Γ (.Raise (some (.Call (.Name x p) [a] [] pc)) none pos) fun e S => (fa e S).bind fun d S => .err c [d] S := by
  obtain ⟨ta, pa, sa⟩ := ha
  obtain ⟨fI, fd, ps, h1, h2, F, hb⟩ := G.ex
  refine ⟨fun D σ H => tMkO (Γ.T.ecl c) (spIni (Γ.T.ecl c) f) [] (tCons ta tNil) σ H fun cls d H' => Γ.E cls d H', fun Y ok => ?_, fun w S e σ D k he h => ?_⟩
  · exact ps_raise (W := fun cls d _ H => Γ.E cls d H) rfl ok.takes (pmk_oex G.oex h1 h2 F (ok.room.mono (by omega)) hb .nil (passes_call ok.takes fun _ _ _ _ h => h.elim) (glY ok.toOk hg) G.at_ (pa_cons (pa Y ok.toOk) pa_nil (star_cons hs _)) hd (star_cons hs _) (star_plain _ rfl))
  · refine sa w S e σ _ k he (PostS.bind k h fun d S1 w1 v _ hle k1 rd h1 => ?_)
    refine ⟨by simp, fun b hb => ⟨b, v, rfl, upd_same, fun dx hdx hne => ?_⟩⟩
    have hdx1 : w1.H dx = none := by rw [upd_ne hne] at hdx; exact hdx
    refine ⟨rfl, dx, [(f, v)], upd_same, by rw [upd_ne hne]; exact upd_same, hdx1, ?_⟩
    obtain ⟨k2, hx⟩ := k1.grow (o := .xd [(f, v)]) hdx1
    have e1 : upd (del (upd (upd (upd w1.H b (exo b (Γ.T.ecl c) none)) dx (exd dx [(f, v)])) b (exo b (Γ.T.ecl c) (some dx))) b) dx (.xd [(f, v)]) = upd w1.H dx (.xd [(f, v)]) := by
      funext q
      by_cases e2 : q = dx
      · subst e2
        rw [upd_same, upd_same]
      · rw [upd_ne e2, upd_ne e2]
        unfold del
        by_cases e3 : q = b
        · subst e3
          simp [hb]
        · simp [e3, upd_ne e3, upd_ne e2]
    rw [e1]
    refine h1 _ dx [(f, v)] hx k2 upd_same ⟨[v], .cons (Rep.le hx rd) .nil, by rw [G.fl]; rfl, fun i n u h3 h4 => ?_⟩
    rw [G.fl] at h3
    cases i with
    | zero =>
      cases h3
      cases h4
      simp
    | succ i => simp at h3
end
end Pv
namespace Pv
open PySem L2 PyProof.Rows
/-- one clause: the class, the name's slot, its suite's reading -/
abbrev Clause := Value × Nat × (Addr → Value → Option Addr → TS)
/-- the end of a suite: its name goes -/
def gone (D : Ends) (i : Nat) : Ends := { nx := fun σ H => D.nx (σ.set i none) H, rt := D.rt, bk := fun σ H => D.bk (σ.set i none) H, ct := fun σ H => D.ct (σ.set i none) H }
def wAss (K : PySem.W.Frag) (Wo : WX) (D : Ends) : List Clause → WX
  | [] => Wo
  | (c, i, ts) :: l => fun cls d σ H => ∃ b, PySem.W.exmOne K cls c = some b ∧ (b = true → ∀ a, H a = none → ts a cls d (gone D i) (σ.set i (some (.ref a))) H) ∧ (b = false → wAss K Wo D l cls d σ H)
inductive Clauses (X : Cx) : List ExceptHandler → List Clause → Prop
  | nil : Clauses X [] []
  | cons {x n : Str} {c : Value} {i : Nat} {ts : Addr → Value → Option Addr → TS} {b0 : Stmt} {bs : List Stmt} {np hp : Pos} {hs : List ExceptHandler} {l : List Clause} (nm : Names X x c) (ix : X.N[i]? = some n) (lc : X.env.kindOf n = some .local)
      (su : ∀ (a : Addr) (oe : Obj) (cls : Value) (d : Option Addr) (pn : List (Addr × Obj)), Zc cls d oe → (∃ vs, oe.data = .fields vs) → PSs (X.suite a ((a, oe) :: pn)) (b0 :: bs) (ts a cls d)) (r : Clauses X hs l) :
      Clauses X (.ExceptHandler (some (.Name x np)) (some n) (b0 :: bs) hp :: hs) ((c, i, ts) :: l)
section
variable {X : Cx} {pins : List (Addr × Obj)}
/-- where an exception that has landed lies -/
theorem apart {a : Addr} {B hh : Heap} {o : Obj} {vs : Array Value} (hf : X.env.frame = some X.env.locals) (ff : hh.FunFrames B (X.env :: X.outer)) (e : hh.get? a = some o) (dd : o.data = .fields vs) : a ≠ X.env.locals ∧ a ∉ X.fs := by
  have no : a ∉ frs (X.env :: X.outer) := fun hm => by
    obtain ⟨_, o2, e2, hn⟩ := ff.mem hm
    rw [e] at e2
    cases e2
    exact hn _ dd
  exact ⟨fun z => no (List.mem_filterMap.mpr ⟨X.env, List.mem_cons_self, by rw [hf, z]⟩), fun hm => let ⟨e, he, q⟩ := List.mem_filterMap.mp hm; no (List.mem_filterMap.mpr ⟨e, List.mem_cons_of_mem _ he, q⟩)⟩
/-- the clauses, one after another, at an exception that has landed -/
theorem clauses_run {D : Ends} {Wo : WX} {a : Addr} {B : Heap} {sI s1 : Shared} {h3 : Heap} {σ1 : L2.St} {H1 : Hp} {cls : Value} {d : Option Addr} (hN : X.N.Nodup) (ok : X.Ok) (hs : X.stack = X.env :: X.outer) (hf : X.env.frame = some X.env.locals) (tk : Takes X Wo)
    (J : L2.Inv X pins σ1 H1 sI) (nb : ∀ b o, sI.heap.get? b = some o → b ∉ frs X.stack → B.get? b = some o) (up : sI.heap.UpToSlots h3) (os : s1.os = sI.os) (ag : AllBare s1.gens) (na : H1 a = none)
    (fl : HandSPX.FlyingZ B (X.env :: X.outer) a (Zc cls d) h3) {hds : List ExceptHandler} {l : List Clause} (cl : Clauses X hds l) (w : wAss X.K Wo D l cls d σ1 H1) :
    wpAny (model X.prog X.w) X.A (handleBy (.ref a) X.env hds) (SP X pins D) X.xe { s1 with heap := h3 } := by
  have J3 : L2.Inv X pins σ1 H1 { s1 with heap := h3 } := J.landed nb fl.1 up os ag
  obtain ⟨o3, v3, g3, z3, d3⟩ := fl.there
  obtain ⟨nL, nF⟩ := apart (X := X) hf fl.2.2.1 g3 d3
  have S3 := J3.suite g3 d3 na nL nF
  induction cl with
  | nil =>
    refine wpAny_handleBy_nil ?_
    obtain ⟨_, _, _, o4, v4, tb, _, _, g4, _, d4, t4, _⟩ := id fl
    unfold PySem.passOn
    refine wpAny_bind (wpAny_field g4 d4 t4 ?_)
    have ne : ¬ ((Value.ref tb == Value.none) = true) := by simp
    rw [if_neg ne]
    have last : wpAny (model X.prog X.w) X.A (setFlight (.ref a) X.env.frame) (fun _ t => wpAny (model X.prog X.w) X.A (throw (.ref a) : Sem Flow) (SP X pins D) X.xe t) X.xe { s1 with heap := h3 } := by
      rw [hf]
      exact HandSPX.setFlight_upZ fl fun h4 q4 u4 => wpAny_throw (tk _ _ ⟨a, B, sI, pins, σ1, H1, cls, d, rfl, J, nb, up.trans u4, .inr (.inr (by rw [hs]; exact q4)), na, os, ag, w⟩)
    first | exact wpAny_bind (wpAny_pure (wpAny_bind last)) | exact wpAny_bind last
  | @cons x n c i ts b0 bs np hp hs2 l2 nm ix lc su r ih =>
    obtain ⟨b, e1, yes, no⟩ := w
    (refine wpAny_handleBy_cons (codeAny_handlers_test ?_) (by intro q; cases q))
    have lt : PySem.W.Looks (model X.prog X.w) h3 (typeOf (.ref a)) cls := fun A Q E s k q => wpAny_typeOf_ref (k _ _ g3) (by rw [z3.1]; exact q)
    have lm := PySem.W.exm_one (M := model X.prog X.w) J3.kIn lt e1
    have ev : ∀ {Q : Value → Shared → Prop} {E : Value → Shared → Prop}, Q c { s1 with heap := h3 } → wpAny (model X.prog X.w) (X.A.mark (some (.ref a))) (eval (.Name x np) X.env) Q E { s1 with heap := h3 } := fun {Q E} q => by
      obtain ⟨gx, gd, gm | ⟨gm, gv, gn⟩⟩ := nm
      · exact ld_glob (X := X.suite a ((a, o3) :: (X.pn ++ pins))) S3 gx gm q gd
      · exact ld_blt (X := X.suite a ((a, o3) :: (X.pn ++ pins))) S3 gx gm gv q gn gd
    refine ev (lm.here ?_)
    cases b with
    | false => exact ih (no rfl)
    | true =>
      refine codeAny_handlers_suite_as (HandSPX.lands_againZ fl fun h4 f4 u4 => ?_)
      obtain ⟨o4, v4, g4, z4, d4⟩ := f4.there
      have J4 : L2.Inv X pins σ1 H1 { s1 with heap := h4 } := J.landed nb f4.1 (up.trans u4) os ag
      have S4 := J4.suite g4 d4 na nL nF
      refine store_ok (X := X.suite a ((a, o4) :: (X.pn ++ pins))) (v := .ref a) S4 hN ix (.inl lc) rfl (fun s5 S5 => ?_) (.inr lc)
      have fin : ∀ {σ6 : L2.St} {H6 : Hp} {s6 : Shared} {Q : Shared → Prop}, L2.Inv (X.suite a ((a, o4) :: (X.pn ++ pins))) [] σ6 H6 s6 → (∀ s7, L2.Inv X pins (σ6.set i none) H6 s7 → Q s7) →
          wpAny (model X.prog X.w) X.A (do bindName X.env n .none; unbindBehindTheSuite X.env n hp) (fun _ s7 => Q s7) X.xe s6 := fun S6 hq => gone_ok (S6.unsuite ok) hN ix lc hq
      refine wpAny_mono ((su a o4 cls d (X.pn ++ pins) z4 ⟨_, d4⟩).run [] s5 _ H1 _ S5 (yes rfl a na)) (fun f s6 q => ?_) (fun _ _ z => False.elim z)
      cases f with
      | ret u => obtain ⟨v6, σ6, H6, S6, r6, q6⟩ := q; exact fin S6 fun s7 J7 => ⟨_, _, _, J7, r6, q6⟩
      | next => obtain ⟨σ6, H6, S6, q6⟩ := q; exact fin S6 fun s7 J7 => ⟨_, _, J7, q6⟩
      | brk => obtain ⟨σ6, H6, S6, q6⟩ := q; exact fin S6 fun s7 J7 => ⟨_, _, J7, q6⟩
      | cont => obtain ⟨σ6, H6, S6, q6⟩ := q; exact fin S6 fun s7 J7 => ⟨_, _, J7, q6⟩
theorem ps_try_ass {body : List Stmt} {h0 : ExceptHandler} {hds : List ExceptHandler} {l : List Clause} {pos : Pos} {tb : WX → TS} {Wo : WX} (hN : X.N.Nodup) (hs : X.stack = X.env :: X.outer) (hf : X.env.frame = some X.env.locals) (tk : Takes X Wo)
    (hb : ∀ (W : WX) (pn : List (Addr × Obj)) (xe : Value → Shared → Prop), Takes (X.tr
          pn xe) W → PassesOwn (model X.prog X.w) X.A X.env xe → PSs (X.tr pn xe) body (tb W))
    (cl : Clauses X (h0 :: hds) l) : PS X (.Try body (h0 :: hds) [] [] pos) (fun D σ H => tb (wAss X.K Wo D l) D σ H) := by
  (refine ⟨fun pins s σ H D I h => ?_⟩)
  have ok := I.ok
  have fr : X.A.frames = some (X.env :: X.outer) := by rw [ok.frames, hs]
  have hw := hb (wAss X.K Wo D l) (X.pn ++ pins) (fun e t => wpAny (model X.prog X.w) X.A (noteFrame e X.env) (fun _ t2 => wpAny (model X.prog X.w) X.A (setFlight e none) (fun _ t3 =>
    wpAny (model X.prog X.w) X.A (handleBy e X.env (h0 :: hds)) (SP X pins D) X.xe t3) X.xe t2) X.xe t) (fun u t q => by
      obtain ⟨a, B, sI, pins', σ1, H1, cls, d, rfl, J', nb, up, sky, na, os, ag, w⟩ := q
      have sky' : Sky B (X.env :: X.outer) a (Zc cls d) X.env.locals t.heap := by rw [← hs]; exact sky
      exact Sky.land Zc.steady fr hf sky' fun h3 f3 u3 => clauses_run hN ok hs hf tk (J'.ofTry ok) nb (up.trans u3) os ag na f3 cl w) PassesOwn.looking
  refine wpAny_Try_except (wpAny_mono (hw.run [] s σ H D (I.toTry _) h) (fun f t q => ?_) fun e t q => q)
  cases f with
  | next => obtain ⟨σ1, H1, J1, q1⟩ := q; exact wpAny_execs_nil ⟨σ1, H1, J1.ofTry ok, q1⟩
  | brk => obtain ⟨σ1, H1, J1, q1⟩ := q; exact ⟨σ1, H1, J1.ofTry ok, q1⟩
  | cont => obtain ⟨σ1, H1, J1, q1⟩ := q; exact ⟨σ1, H1, J1.ofTry ok, q1⟩
  | ret u => obtain ⟨v, σ1, H1, J1, r, q1⟩ := q; exact ⟨v, σ1, H1, J1.ofTry ok, r, q1⟩
/-- the names' number is known where an exception lies -/
theorem takes_len {W : WX} (tk : Takes X W) : Takes X (fun cls d σ H => σ.length = X.N.length → W cls d σ H) := fun u s q => by
  obtain ⟨a, B, sI, pins', σ1, H1, cls, d, e, J, nb, up, sky, na, os, ag, w⟩ := q
  exact tk u s ⟨a, B, sI, pins', σ1, H1, cls, d, e, J, nb, up, sky, na, os, ag, w J.len⟩
end
structure Told where
  C : Addr
  word : Str
  f : Str
  x : Str
def eTold (K : PySem.W.Frag) (Q : VK) : List Told → XK
  | [] => fun _ _ _ => False
  | p :: l => fun cls d H => ∃ b, PySem.W.exmOne K cls (.ref p.C) = some b ∧ (b = true → ∃ dd fs v, d = some dd ∧ cls = .ref p.C ∧ H dd = some (.xd fs) ∧ fs.lookup p.f = some v ∧ ∀ q, H q = none → Q (.ref q) (upd H q (.tup [.str p.word, v]))) ∧ (b = false → eTold K Q l cls d H)
def TTm (K : PySem.W.Frag) (word : Str) (l : List Told) : (XK → Hp → VK → Prop) → Hp → VK → Prop := fun tl H Q => tl (eTold K Q l) H fun v H1 => [V.str word, v].length ≤ sizeLine ∧ ∀ q, H1 q = none → Q (.ref q) (upd H1 q (.tup [.str word, v]))
/-- the suites of such clauses -/
def ToldHs (K : PySem.W.Frag) (mg : Str → Option Value) (sg : Scope) (e : Str) : List Told → List ExceptHandler → Prop
  | [], [] => True
  | t :: l, .ExceptHandler (some (.Name x _)) (some n) [.Return (some (.Tuple [.Constant (.str w) _ _, .Attribute (.Name m _) f _] _ _)) _] _ :: hs =>
    x = t.x ∧ n = e ∧ m = e ∧ w = t.word ∧ f = t.f ∧ sg.names.lookup x = some .globalImplicit ∧ (x == ("__debug__" : Str)) = false ∧ mg x = some (.ref t.C) ∧ XfC K t.C ∧ PySem.W.findIn K (.ref t.C) t.f = some none ∧ ToldHs K mg sg e l hs
  | _, _ => False
/-- the clauses' readings: slot i is the name's -/
def toldCl (K : PySem.W.Frag) (i : Nat) : List Told → List Clause
  | [] => []
  | t :: l => (.ref t.C, i, fun a cls d => tRet (tTup (tCons (tC (.str t.word)) (tCons (tXf a cls d t.C t.f (tVar i)) tNil)))) :: toldCl K i l
section
variable {X : Cx}
theorem told_clauses {sg : Scope} {e : Str} {i : Nat} (hsc : X.env.scope = sg) (hi : X.N[i]? = some e) (hl : sg.names.lookup e = some .local) (hd : (e == ("__debug__" : Str)) = false) (hcd : (e == ("__classdict__" : Str)) = false) :
    ∀ {l : List Told} {hs : List ExceptHandler}, ToldHs X.K X.mg sg e l hs → Clauses X hs (toldCl X.K i l)
  | [], [], _ => .nil
  | t :: l, .ExceptHandler ty n b p :: hs, h => by
    unfold ToldHs at h
    split at h
    · rename_i e1 e2
      cases e1
    · rename_i e1 e2
      cases e1
      cases e2
      obtain ⟨rfl, rfl, rfl, rfl, rfl, hg, hdb, hm, xf, hf, r⟩ := h
      have kl : ∀ y, sg.names.lookup y = some .local → X.env.kindOf y = some .local := fun y hy => by show X.env.scope.names.lookup _ = _; rw [hsc]; exact hy
      refine .cons ⟨by show X.env.scope.names.lookup _ = _; rw [hsc]; exact hg, hdb, .inl hm⟩ hi (kl _ hl) (fun a oe cls d pn hz hv => ?_) (told_clauses hsc hi hl hd hcd r)
      exact pss_one (ps_ret (pe_tup (pa_cons pe_str (pa_cons (pe_xf xf hf hz hv (pe_var hi (.inl (kl _ hl)) hd hcd)) pa_nil))))
    · exact h.elim
theorem told_wish {Q : VK} {i : Nat} {D : Ends} (hD : D.rt = Q) : ∀ {l : List Told} {cls : Value} {d : Option Addr} {σ : L2.St} {H : Hp}, i < σ.length → eTold X.K Q l cls d H → wAss X.K (fun _ _ _ _ => False) D (toldCl X.K i l) cls d σ H
  | [], _, _, _, _, _, h => h
  | t :: l, cls, d, σ, H, hi, ⟨b, h1, h2, h3⟩ => ⟨b, h1, fun hb a ha => by
      obtain ⟨dd, fs, v, e1, e2, e3, e4, q⟩ := h2 hb
      have hg : (σ.set i (some (V.ref a)))[i]? = some (some (V.ref a)) := by rw [List.getElem?_set_self hi]
      refine ⟨_, hg, rfl, e2, dd, fs, v, e1, e3, e4, by show 2 ≤ sizeLine; rw [SZ_eq]; decide, fun p hp => ?_⟩
      subst hD
      exact q p hp, fun hb => told_wish hD hi (h3 hb)⟩
theorem told_gives {Ng : List Str} {x a e q word : Str} {sg : Scope} {g : Addr} {cdg : Value} {j kk : Nat} {l : List Told} {h0 : ExceptHandler} {hs : List ExceptHandler} {p1 p2 p3 p4 p5 p6 : Pos} (hN : Ng.Nodup) (hi : Ng[1]? = some e) (hl : sg.names.lookup e = some .local) (hd : (e == ("__debug__" : Str)) = false) (hcd : (e == ("__classdict__" : Str)) = false)
    (hh : ToldHs X.K X.mg sg e l (h0 :: hs)) (hz : ∀ f : Addr, (L2.start Ng [V.ref f])[0]? = some (some (V.ref f))) :
    LamX.GivesTo X Ng x sg g cdg [.Try [.Return (some (.Tuple [.Constant (.str word) j p4, .Call (.Name a p1) [] [] p2] kk p5)) p3] (h0 :: hs) [] [] p6] a q (TTm X.K word l) := by
  intro f c' s H Q tl act hc h
  have hlen : 1 < Ng.length := (List.getElem?_eq_some_iff.mp hi).1
  refine ⟨_, pss_one (ps_try_ass (X := (cxOf C8.CX0 X.prog X.w X.K X.mg X.base Ng x sg g cdg X.A X.stack s H C8.E0).nox) (Wo := fun _ _ _ _ => False)
    (tb := fun W D σ H => ∃ Ech : XK, (∀ cls d (σ' : L2.St) H', Ech cls d H' → σ'.length = Ng.length → W cls d σ' H') ∧ σ[0]? = some (some (.ref f)) ∧ H c' = some (LamX.CodeO c' q) ∧ tl Ech H fun v H1 => [V.str word, v].length ≤ sizeLine ∧ ∀ p, H1 p = none → D.rt (.ref p) (upd H1 p (.tup [.str word, v])))
    hN rfl rfl LamX.takes0 (fun W pn xe tk _ => ?_) (told_clauses (X := (cxOf C8.CX0 X.prog X.w X.K X.mg X.base Ng x sg g cdg X.A X.stack s H C8.E0).nox) rfl hi hl hd hcd hh)), ?_⟩
  · (refine ⟨fun pins s' σ H' D I h' => ?_⟩)
    (obtain ⟨Ech, hW, h1, h2, h3⟩ := h')
    have hp := act _ pn xe Ech p1 p2 (takes_len tk) hW
    have hq := pss_one (ps_ret (pos := p3) (pe_tup (x1 := kk) (pos := p5) (pa_cons (pe_str (x := word) (j := j) (pos := p4)) (pa_cons hp pa_nil))))
    (exact hq.run pins s' σ H' D I ⟨h1, h2, h3⟩)
  · exact ⟨eTold X.K Q l, fun cls d σ' H' hE hlen' => told_wish rfl (by rw [hlen']; exact hlen) hE, hz f, hc, h⟩
end
end Pv
namespace Pv
open PySem L2 PyProof.Rows
/-- the heap's tables have grown -/
theorem ext_tab {T : Ks} {w : Wd} {S : Store} {H1 : Hp} (k : w.ok T S) (e : LamX.ExtN w.H H1) (t : LamX.Tabs T.tabs H1) : (Wd.mk H1 w.G w.φ).ok T S ∧ w.le (Wd.mk H1 w.G w.φ) := by
  refine ⟨⟨fun a u q => e a u (k.sub a u q) fun ps z => k.gt a ps (z ▸ q), k.len, k.nd, k.live, fun i a c e1 e2 => ?_, k.gt, t⟩, ⟨Sub.refl _, Pre.refl _, fun a o q _ nt => e a o q nt, fun _ h => .inl h, fun _ _ h => .inl h⟩⟩
  cases k.cell i a c e1 e2 with
  | lst h1 r => exact .lst (e _ _ h1 fun _ z => by cases z) r
  | ins h1 h2 r => exact .ins (e _ _ h1 fun _ z => by cases z) h2 r
def Ct.lamC (Γ : Ct) (scope : Scope) (E : XK) : Ct := { Γ with E := E, sc := scope, top := false, lm := none }
/-- a def that tells of its argument's call -/
structure MwGood (M : Gm) (x : Str) (w : List Nat) (hs : List (Nat × List Nat)) : Prop where
  ex : ∃ (g : Addr) (pg : Arguments) (bg : List Stmt) (sg : Scope) (dV kV doc pm cdv ct oc : Value) (an od : Option Addr) (osl : Array (Option Value)) (Ng : List Str) (a : Str) (l : List Told),
    M.mg x = some (.ref g) ∧ PySem.W.keepIn M.T.K (.ref g) = true ∧ M.T.K.lookup g = some ⟨oc, od, .func (PySem.W.fnOf x x pg bg sg dV kV doc pm an cdv ct), osl⟩ ∧ PySem.W.codeIn M.T.K cdv x = true ∧
    L2.Binds M.T.K (PySem.W.fnOf x x pg bg sg dV kV doc pm an cdv ct) [a] [] ∧ FnScope Ng [a] sg ∧ Ng[0]? = some a ∧ Vis sg a ∧ (a == ("__debug__" : Str)) = false ∧ (a == ("__classdict__" : Str)) = false ∧
    (∀ X : Cx, X.K = M.T.K → X.mg = M.mg → ∀ q, LamX.GivesTo X Ng x sg g cdv bg a q (TTm M.T.K (sv w) l)) ∧
    ∀ (Q : VK) (c : Nat) (w' : List Nat) (f : Str) (dd : Addr) (fs : List (Str × V)) (v : V) (H : Hp), hs.lookup c = some w' → (M.T.efl c)[0]? = some f → H dd = some (.xd fs) → fs.lookup f = some v → (∀ q, H q = none → Q (.ref q) (upd H q (.tup [.str (sv w'), v]))) →
      eTold M.T.K Q l (.ref (M.T.ecl c)) (some dd) H
section
variable {Γ : Ct} {x : Str} {p lpos pos : Pos} {params : Arguments} {body : Expr} {scope : Scope} {fe : FD} {w : List Nat} {hs : List (Nat × List Nat)} {c P : Addr} {q : Str}
theorem lam_ok {Y : Dy} (ok : Γ.Ok Y) {A : Around} {outer : List PySem.Env} {s : Shared} {H : Hp} {E : XK} {f c' : Addr} (hr : Room (4 * Γ.k + 5) (A.deeper (LamX.lamEnv (Γ.cx Y) scope s.heap.objs.size f c'))) :
    ∃ Z, LamX.lamCx (Γ.cx Y) A outer s H E scope f c' = (Γ.lamC scope E).cx Z ∧ (Γ.lamC scope E).Ok Z := by
  refine ⟨⟨A.deeper (LamX.lamEnv (Γ.cx Y) scope s.heap.objs.size f c'), s, H, LamX.lamEnv (Γ.cx Y) scope s.heap.objs.size f c', outer, LamX.lamEnv (Γ.cx Y) scope s.heap.objs.size f c' :: outer, [], fun _ => false, [], (LamX.lamCx (Γ.cx Y) A outer s H E scope f c').xe⟩, rfl, ?_⟩
  exact {
    sc := rfl
    nd := ok.nd
    room := hr
    fn := fun h => by cases h
    lam := fun c P q h => by cases h
    takes := takes_of (X := LamX.lamCx (Γ.cx Y) A outer s H E scope f c') rfl rfl rfl (by rfl) }
theorem grd_err {T : Ks} {E : XK} {w0 : Wd} {Q : VK} {cc : Nat} {as : List D} {S1 : Store} (h : Post T (RV T) E w0 (grdD hs w (.err cc as S1)) Q) : ∃ w' d ds, hs.lookup cc = some w' ∧ as = d :: ds ∧ Post T (RV T) E w0 (.ok (.tup [.str w', d]) S1) Q := by
  unfold grdD at h
  simp only at h
  split at h
  · exact ⟨_, _, _, by assumption, rfl, h⟩
  · exact h.elim
theorem xe_grd (MW : MwGood Γ.M x w hs) (hlm : Γ.lm = some (c, P, q)) (hT : (P, q ++ ("<lambda>" : Str)) ∈ Γ.T.tabs) (hu : ∀ p ∈ Γ.T.tabs, p.1 = P → p.2 = q ++ ("<lambda>" : Str)) (hL : LamX.lamSB Γ.sc scope = true) (hdef : params = ⟨[], [], none, [], [], none, []⟩)
    (hg : Γ.sc.names.lookup x = some .globalImplicit) (hdb : (x == ("__debug__" : Str)) = false) (hb : ∀ E, XE (Γ.lamC scope E) body fe) :
    XE Γ (.Call (.Name x p) [.Lambda params body scope lpos] [] pos) fun e S => grdD hs w (fe e S) := by
  obtain ⟨g, pg, bg, sg, dV, kV, doc, pm, cdv, ct, oc, an, od, osl, Ng, a, l, m1, m2, m3, m4, m5, m6, m7, m8, m9, m10, mG, mE⟩ := MW.ex
  obtain ⟨tE, htE⟩ := Classical.axiomOfChoice hb
  refine ⟨LamX.tLam Γ.T.tabs (TTm Γ.T.K (sv w) l) tE, fun Y ok => ?_, fun w0 S e σ Q k he h => ⟨k.tab, fun H1 eN t1 => ?_⟩⟩
  · obtain ⟨r1, r2, r3, r4⟩ := ok.lam c P q hlm
    subst hdef
    exact LamX.pe_lamcall (k := 4 * Γ.k + 5) (c := c) (P := P) (glY ok hg) m1 m2 m3 m4 m5 m6 m7 m8 (mG (Γ.cx Y) rfl rfl _) r3 r2 (by show (P, Y.env.qual ++ _) ∈ _; rw [r4]; exact hT) (fun p hp h => by show p.2 = Y.env.qual ++ _; rw [r4]; exact hu p hp h) r1 (LamX.lamS_by (by show LamX.lamSB Y.env.scope scope = true; rw [ok.sc]; exact hL)) (by rfl) (fun _ _ _ _ _ => by rfl)
      (fun A outer s H E f c' hr => by
        obtain ⟨Z, eZ, okZ⟩ := lam_ok ok (outer := outer) (H := H) (E := E) hr
        rw [eZ]
        exact (htE E).1 Z okZ) hdb m9 m10
  · obtain ⟨k1, hle⟩ := ext_tab k eN t1
    have h1 : Post Γ.T (RV Γ.T) Γ.E (Wd.mk H1 w0.G w0.φ) (grdD hs w (fe e S)) Q := Post.shift k k1 hle h
    show tE (eTold Γ.T.K Q l) σ H1 fun v H2 => [V.str (sv w), v].length ≤ sizeLine ∧ ∀ q, H2 q = none → Q (.ref q) (upd H2 q (.tup [.str (sv w), v]))
    refine (htE (eTold Γ.T.K Q l)).2 (Wd.mk H1 w0.G w0.φ) S e σ _ k1 (he.le hle) ?_
    cases ef : fe e S with
    | stuck => rw [ef] at h1; exact h1.elim
    | ok d S1 =>
      rw [ef] at h1
      intro w2 v hle2 k2 rv
      refine ⟨by show 2 ≤ sizeLine; rw [SZ_eq]; decide, fun q hq => ?_⟩
      exact post_tup k2 (.cons (.str w) (.cons rv .nil)) (Post.shift (E := Γ.E) k1 k2 hle2 (show Post Γ.T (RV Γ.T) Γ.E _ (.ok (.tup [.str w, d]) S1) Q from h1)) q hq
    | err cc as S1 =>
      rw [ef] at h1
      obtain ⟨w', d, ds, hlk, rfl, h1'⟩ := grd_err h1
      intro w2 dd fs hle2 k2 hdd hfs
      obtain ⟨vs, rs, hl, hat⟩ := hfs
      cases rs with
      | @cons _ v _ vs' rd rs =>
        obtain ⟨f, hf⟩ : ∃ f, (Γ.T.efl cc)[0]? = some f := by
          have h0 : 0 < (Γ.T.efl cc).length := by
            have hl' : (d :: ds).length = (Γ.T.efl cc).length := hl
            rw [← hl']
            simp
          exact ⟨_, List.getElem?_eq_getElem h0⟩
        refine mE Q cc w' f dd fs v w2.H hlk hf hdd (hat 0 f v hf rfl) fun q hq => ?_
        exact post_tup k2 (.cons (.str w') (.cons rd .nil)) (Post.shift (E := Γ.E) k1 k2 hle2 h1') q hq
end
def noXK : XK := fun _ _ _ => False
section
variable {T : Ks} {w w1 : Wd} {S S1 : Store}
mutual
theorem Rep.pure_ {K : PySem.W.Frag} {W : World} {G G' : Hp} {φ φ' : List Addr} (hG : Sub G G') : ∀ {d : D} {v : V}, d.pure = true → Rep K W G φ d v → Rep K W G' φ' d v
  | _, _, _, .non => .non
  | _, _, _, .bl b => .bl b
  | _, _, _, .int i => .int i
  | _, _, _, .str s => .str s
  | _, _, h, .lst g r => .lst (hG _ _ g) (Reps.pure_ hG (by simpa [D.pure] using h) r)
  | _, _, h, .tup g r => .tup (sub_t hG g) (Reps.pure_ hG (by simpa [D.pure] using h) r)
  | _, _, _, .scr g => .scr (sub_l hG g)
  | _, _, _, .edc g => .edc (hG _ _ g)
  | _, _, _, .sdc g r => .sdc g r
  | _, _, h, .obj _ => by simp [D.pure] at h
theorem Reps.pure_ {K : PySem.W.Frag} {W : World} {G G' : Hp} {φ φ' : List Addr} (hG : Sub G G') : ∀ {ds : List D} {vs : List V}, D.pures ds = true → Reps K W G φ ds vs → Reps K W G' φ' ds vs
  | _, _, _, .nil => .nil
  | _, _, h, .cons r t => by
    simp only [D.pures, Bool.and_eq_true] at h
    exact .cons (Rep.pure_ hG h.1 r) (Reps.pure_ hG h.2 t)
end
/-- the world ahead of a call that gets nothing live -/
theorem enter (k : w.ok T S) : (Wd.mk w.H w.G []).ok T [] := ⟨k.sub, rfl, fun i j a h => by simp at h, fun i a h => by simp at h, fun i a c h => by simp at h, k.gt, k.tab⟩
/-- the callee's lists become things that never change -/
def frzG (w1 : Wd) : Hp := fun a => match w1.G a with
  | some o => some o
  | none => if a ∈ w1.φ then (match w1.H a with
    | some (.lst xs) => some (.lst xs)
    | _ => none) else none
theorem frzG_sub : Sub w1.G (frzG w1) := fun a o h => by unfold frzG; rw [h]
theorem frzG_H {a : Addr} {o : HO} (k1 : w1.ok T S1) (h : frzG w1 a = some o) : w1.H a = some o ∧ (w1.G a = some o ∨ (a ∈ w1.φ ∧ ∃ xs, o = .lst xs)) := by
  unfold frzG at h
  cases g : w1.G a with
  | some u =>
    rw [g] at h
    cases h
    exact ⟨k1.sub _ _ g, .inl rfl⟩
  | none =>
    rw [g] at h
    simp only at h
    split at h
    · rename_i hm
      split at h
      · rename_i xs e
        cases h
        exact ⟨e, .inr ⟨hm, xs, rfl⟩⟩
      · cases h
    · cases h
theorem leave (k : w.ok T S) (k1 : w1.ok T S1) (x : (Wd.mk w.H w.G []).le w1) : (Wd.mk w1.H (frzG w1) w.φ).ok T S ∧ w.le (Wd.mk w1.H (frzG w1) w.φ) := by
  have kp : ∀ a o, w.H a = some o → (∀ ps, o ≠ .tbl ps) → w1.H a = some o := fun a o h nt => x.keep a o h (by simp) nt
  have old : ∀ {a : Addr}, a ∈ w.φ → a ∉ w1.φ := fun {a} hm hm1 => by
    obtain ⟨o, e, nt, _⟩ := k.live_ hm
    rcases x.new a hm1 with q | q
    · simp at q
    · obtain ⟨ps, z⟩ := q o e
      exact nt ps z
  refine ⟨⟨fun a o h => (frzG_H k1 h).1, k.len, k.nd, fun i a e => ?_, fun i a c e ec => ?_, fun a ps h => ?_, k1.tab⟩, ⟨fun a o h => frzG_sub a o (x.sub a o h), Pre.refl _, fun a o h _ nt => kp a o h nt, fun a h => .inl h, fun a o h => ?_⟩⟩
  · show frzG w1 a = none
    have hm := List.mem_of_getElem? e
    have g1 : w1.G a = none := by
      cases g : w1.G a with
      | none => rfl
      | some u =>
        rcases x.newG a u g with q | q
        · rw [show w.G a = none from k.live i a e] at q
          cases q
        · obtain ⟨o, eo, nt, _⟩ := k.live_ hm
          obtain ⟨ps, z⟩ := q o eo
          exact absurd z (nt ps)
    unfold frzG
    rw [g1]
    simp only
    rw [if_neg (old hm)]
  · cases k.cell i a c e ec with
    | lst h1 r => exact .lst (kp _ _ h1 fun _ z => by cases z) (r.mono (fun a o h => frzG_sub a o (x.sub a o h)) (Pre.refl _))
    | ins h1 h2 r => exact .ins (kp _ _ h1 fun _ z => by cases z) h2 (r.mono (fun a o h => frzG_sub a o (x.sub a o h)) (Pre.refl _))
  · obtain ⟨_, q | ⟨_, xs, z⟩⟩ := frzG_H k1 h
    · exact k1.gt a ps q
    · cases z
  · obtain ⟨_, q | ⟨hm, _⟩⟩ := frzG_H k1 h
    · exact x.newG a o q
    · rcases x.new a hm with q | q
      · simp at q
      · exact .inr q
theorem mapO_cons {α β : Type} {f : α → Option β} {x : α} {xs : List α} {ys : List β} (h : mapO f (x :: xs) = some ys) : ∃ y zs, f x = some y ∧ mapO f xs = some zs ∧ ys = y :: zs := by
  unfold mapO at h
  split at h
  · rename_i y zs e1 e2
    cases h
    exact ⟨_, _, e1, e2, rfl⟩
  · cases h
theorem frz_reps {φ : List Addr} (k1 : w1.ok T S1) {f : D → Option D} (hf : ∀ d d' v, f d = some d' → RV T w1 d v → Rep T.K T.W (frzG w1) φ d' v) : ∀ {ds ds' : List D} {vs : List V}, mapO f ds = some ds' → RVs T w1 ds vs → Reps T.K T.W (frzG w1) φ ds' vs
  | _, _, _, h, .nil => by cases h; exact .nil
  | _, _, _, h, .cons r t => by
    obtain ⟨y, zs, e1, e2, rfl⟩ := mapO_cons h
    exact .cons (hf _ _ _ e1 r) (frz_reps k1 hf e2 t)
theorem frz_rep {φ : List Addr} (k1 : w1.ok T S1) : ∀ (n : Nat) (d d' : D) (v : V), D.frz S1 n d = some d' → RV T w1 d v → Rep T.K T.W (frzG w1) φ d' v
  | 0, _, _, _, h, _ => by cases h
  | n + 1, d, d', v, h, r => by
    cases r with
    | lst g rs =>
      obtain ⟨ys, e1, e2⟩ := Option.map_eq_some_iff.mp h
      subst e2
      exact .lst (frzG_sub _ _ g) (frz_reps k1 (fun d d' v => frz_rep k1 n d d' v) e1 rs)
    | tup g rs =>
      obtain ⟨ys, e1, e2⟩ := Option.map_eq_some_iff.mp h
      subst e2
      exact .tup (sub_t frzG_sub g) (frz_reps k1 (fun d d' v => frz_rep k1 n d d' v) e1 rs)
    | @obj a m hm =>
      have h' : (match S1[m]? with | some (.lst xs) => (mapO (D.frz S1 n) xs).map D.lst | _ => none) = some d' := h
      cases z : S1[m]? with
      | none => rw [z] at h'; cases h'
      | some c =>
        rw [z] at h'
        cases c with
        | ins => cases h'
        | lst xs =>
          obtain ⟨ys, e1, e2⟩ := Option.map_eq_some_iff.mp h'
          subst e2
          cases k1.cell m a _ hm z with
          | lst hH rs =>
            refine .lst ?_ (frz_reps k1 (fun d d' v => frz_rep k1 n d d' v) e1 rs)
            unfold frzG
            rw [k1.live m a hm]
            simp only
            rw [if_pos (List.mem_of_getElem? hm), hH]
    | non => cases h; exact .non
    | bl => cases h; exact .bl _
    | int => cases h; exact .int _
    | str => cases h; exact .str _
    | scr g => cases h; exact .scr (sub_l frzG_sub g)
    | edc g => cases h; exact .edc (frzG_sub _ _ g)
    | sdc g q => cases h; exact .sdc g q
theorem frzD_rep {φ : List Addr} (k1 : w1.ok T S1) {d d' : D} {v : V} (h : frzD S1 d = some d') (r : RV T w1 d v) : Rep T.K T.W (frzG w1) φ d' v := by
  unfold frzD at h
  split at h
  · cases h
    exact Rep.pure_ frzG_sub (by assumption) r
  · exact frz_rep k1 60 d d' v h r
/-- a call that gets nothing live: the body's answer, then the callee's lists stand still -/
theorem done_post {E : XK} {r : Ro D} {Q : VK} (k : w.ok T S) (h : Post T (RV T) E w (done r S) Q) : Post T (RV T) E (Wd.mk w.H w.G []) r Q := by
  cases r with
  | stuck => exact h
  | ok d S1 =>
    intro w1 v x k1 rv
    obtain ⟨d', e, h'⟩ := post_opt h
    obtain ⟨k2, x2⟩ := leave k k1 x
    exact h' (Wd.mk w1.H (frzG w1) w.φ) v x2 k2 (frzD_rep k1 e rv)
  | err c as S1 =>
    intro w1 dd fs x k1 hdd hfs
    have h' : Post T (RV T) E w (match mapO (frzD S1) as with | some as => .err c as S | none => .stuck) Q := h
    obtain ⟨k2, x2⟩ := leave k k1 x
    obtain ⟨vs, rs, hl, hat⟩ := hfs
    cases e : mapO (frzD S1) as with
    | none => rw [e] at h'; exact h'.elim
    | some as' =>
      rw [e] at h'
      have rs' := frz_reps (φ := w.φ) k1 (fun d d' v => frzD_rep k1) e rs
      exact h' (Wd.mk w1.H (frzG w1) w.φ) dd fs x2 k2 hdd ⟨vs, rs', by rw [rs'.length, ← rs.length]; exact hl, hat⟩
end
end Pv
namespace Pv
open PySem L2 PyProof.Rows
def preCat (val : Nat → Array Value) : Nat → Array Value
  | 0 => #[]
  | i + 1 => preCat val i ++ val i
theorem preCat_mono (val : Nat → Array Value) {i j : Nat} (h : i ≤ j) : (preCat val i).size ≤ (preCat val j).size := by
  induction h with
  | refl => exact Nat.le_refl _
  | step _ ih => exact Nat.le_trans ih (by show _ ≤ (preCat val _ ++ val _).size; rw [Array.size_append]; omega)
section
variable {prog : Program} {w : World} {A : Around} {R : Result → Shared → Prop} {I : Addr} {fp wr : List Addr} {n : Nat} {P : Nat → Value → Prop} {St : Nat → Heap → Prop} {s₀ : Shared}
theorem suml_loop (W : Walks prog w A.in1 I fp wr n P St) (val : Nat → Array Value) (hold : ∀ b o, s₀.heap.get? b = some o → b ∉ wr) (hval : ∀ i v, P i v → ∃ b m, v = .ref b ∧ s₀.heap.get? b = some { cls := .type "list", dict := none, data := .seq (val i) m, slots := #[] }) (hwr : ∀ i h, St i h → ∀ b ∈ wr, b < h.objs.size) (S : Addr) (hSf : S ∉ fp) (hS0 : s₀.heap.get? S = none) (hz : (preCat val n).size ≤ sizeLine) :
    ∀ (k i : Nat) (s : Shared) (p : Addr) (c : Nat), n - i = k → i ≤ n → St i s.heap → (∀ b o, s₀.heap.get? b = some o → s.heap.get? b = some o) → s.heap.get? S = some { cls := .type "list", dict := none, data := .seq #[.ref p] c, slots := #[] } →
    s.heap.get? p = some { cls := .type "list", data := .seq (preCat val i) } → p ∉ wr → p ≠ S → s₀.heap.objs.size ≤ p →
    (∀ h' tk q, (∀ b o, s₀.heap.get? b = some o → h'.get? b = some o) → s₀.heap.objs.size ≤ q → h'.get? q = some { cls := .type "list", data := .seq (preCat val n) } → R (.ok (.ret (.ref q))) { s with heap := h', toks := tk }) →
    codeAny (model prog w) A (.builtin "sum.loop" ⟨[.ref I, .ref S, rawInt 2, rawInt 0], []⟩) R s := by
  (have hSw : S ∉ wr := fun h => hSf (W.sub _ h))
  intro k
  induction k with
  | zero =>
    intro i s p c hk hi hst hK hS hp hpw hpS hp0 hR
    obtain rfl : i = n := by omega
    (refine codeAny_builtin F.entry_sum_loop ?_)
    (rw [Around.under_plainId F.plain_sum_loop _])
    (show wpAny _ A.in1 (seqItems? (.ref S) >>= _) _ _ s)
    (refine wpAny_bind (wpAny_seqItems hS rfl ?_))
    (show wpAny _ A.in1 (tryCatch (pyNext (.ref I)) _ >>= _) _ _ s)
    (refine wpAny_bind (wpAny_tryCatch (W.done s _ _ hst fun h' tk hk' => ?_)))
    exact wpAny_pure (hR h' tk p (fun b o e => hk' b o (hold b o e) (hK b o e)) hp0 (hk' p _ hpw hp))
  | succ k ih =>
    intro i s p c hk hi hst hK hS hp hpw hpS hp0 hR
    have hlt : i < n := by omega
    (refine codeAny_builtin F.entry_sum_loop ?_)
    (rw [Around.under_plainId F.plain_sum_loop _])
    (show wpAny _ A.in1 (seqItems? (.ref S) >>= _) _ _ s)
    (refine wpAny_bind (wpAny_seqItems hS rfl ?_))
    (show wpAny _ A.in1 (tryCatch (pyNext (.ref I)) _ >>= _) _ _ s)
    (refine wpAny_bind (wpAny_tryCatch (W.item i s _ _ hlt hst fun v h' tk hP hst' hk' => ?_)))
    obtain ⟨b, m, rfl, hb⟩ := hval i v hP
    have hS' := hk' S _ hSw hS
    have hp' := hk' p _ hpw hp
    have hb' := hk' b _ (hold b _ hb) (hK b _ hb)
    have hsz : (preCat val i).size + (val i).size ≤ sizeLine := by
      have h1 := preCat_mono val (show i + 1 ≤ n from hlt)
      have h2 : (preCat val (i + 1)).size = (preCat val i).size + (val i).size := by show (preCat val i ++ val i).size = _; rw [Array.size_append]
      omega
    have ltS : S < h'.objs.size := Heap.lt_size hS'
    have ltp : p < h'.objs.size := Heap.lt_size hp'
    show wpAny _ A.in1 ((holding [Value.ref b] (binaryOp .Add (.ref p) (.ref b))).attempt >>= _) _ _ _
    refine wpAny_bind (wpAny_attempt (wpAny_holding (PySem.P.add_list hp' hb' ?_ hsz)))
    show wpAny _ A.in1 (updateSeq S (fun _ => #[.ref h'.objs.size]) >>= _) _ _ _
    have hS1 : (h'.push { cls := .type "list", data := .seq (preCat val i ++ val i) }).get? S = _ := Heap.get?_push_of_some _ hS'
    refine wpAny_bind (wpAny_updateSeq hS1 rfl ?_)
    have hS2 := Heap.get?_update_self (Obj.mapSeq fun _ => #[Value.ref h'.objs.size]) hS1 rfl
    (refine wpAny_bind (wpAny_letGo ?_))
    have keep : ∀ b o, b ≠ S → h'.get? b = some o → (((h'.push { cls := .type "list", data := .seq (preCat val i ++ val i) }).update S (Obj.mapSeq fun _ => #[Value.ref h'.objs.size])).update S (Obj.mapSeq fun _ => #[Value.ref h'.objs.size])).get? b = some o := fun b o hne e =>
      (Heap.get?_update_other _ _ (Ne.symm hne)).trans ((Heap.get?_update_other _ _ (Ne.symm hne)).trans (Heap.get?_push_of_some _ e))
    refine wpAny_bind (wpAny_updateSeq hS2 rfl (wpAny_pure ⟨plainId_quiet F.plain_sum_loop _, ih (i + 1) _ h'.objs.size _ (by omega) hlt (W.frame _ _ _ hst' fun b hb o e => keep b o (fun h => hSf (by rw [← h]; exact hb)) e) (fun b o e => ?_) (Heap.get?_update_self _ hS2 rfl) ?_ ?_ ?_ (Nat.le_trans hp0 (Nat.le_of_lt ltp)) fun h'' tk'' q h1 h2 h3 => hR h'' tk'' q h1 h2 h3⟩))
    · exact keep b o (fun h => by rw [h, hS0] at e; cases e) (hk' b o (hold b o e) (hK b o e))
    · have hne : h'.objs.size ≠ S := Nat.ne_of_gt ltS
      exact (Heap.get?_update_other _ _ (Ne.symm hne)).trans ((Heap.get?_update_other _ _ (Ne.symm hne)).trans (Heap.get?_push_size _ rfl))
    · exact fun h => Nat.lt_irrefl _ (hwr _ _ hst' _ h)
    · exact Nat.ne_of_gt ltS
end
section
variable {prog : Program} {w : World} {A :
      Around} {E : Value → Shared → Prop} {s : Shared}
theorem sub_list_bytesS : isSubtype (.type "list") (.type "bytes") = pure false := by rw [isSubtype_type]; kernel_rfl
theorem sub_list_bytearrayS : isSubtype (.type "list") (.type "bytearray") = pure false := by rw [isSubtype_type]; kernel_rfl
theorem args_sum2 (a b : Value) : argsOk "sum" ⟨[a, b], []⟩ := by unfold argsOk; kernel_rfl
theorem suml_raw {l p : Addr} {items : Array Value} {val : Nat → Array Value} {m : Nat} {Q : Value → Shared → Prop} (hh : A.handled = none) (hl : s.heap.IsList l items)
    (s₀ : Shared) (hval : ∀ i v, items[i]? = some v → ∃ b m, v = .ref b ∧ s₀.heap.get? b = some { cls := .type "list", dict := none, data := .seq (val i) m, slots := #[] }) (hz : (preCat val items.size).size ≤ sizeLine) (hp : s.heap.get? p = some { cls := .type "list", data := .seq #[] })
    (h0 : ∀ b o, s₀.heap.get? b = some o → s.heap.get? b = some o) (hp0 : s₀.heap.objs.size ≤ p)
    (h : ∀ h' tk q, (∀ b o, s₀.heap.get? b = some o → h'.get? b = some o) → s₀.heap.objs.size ≤ q → h'.get? q = some { cls := .type "list", data := .seq (preCat val items.size) } → Q (.ref q) { s with heap := h', toks := tk }) :
    wpAny (model prog w) A (call (.builtin "sum") [.ref l, .ref p]) Q E s := by
  refine call_function_tree F.kind_sum F.plain_sum F.entry_sum (args_sum2 _ _) ?_
  unfold Builtin.«sum»
  (simp only [List.length_cons, List.length_nil])
  rw [if_neg (by decide)]
  refine wpAny_bind (wpAny_of_eq (show Builtin.Builtins.bindParams "sum" ["start"] 0 { pos := [.ref p] } = pure [some (.ref p)] from rfl) ?_)
  (refine wpAny_bind (wpAny_pyIter_list hl ?_))
  (refine wpAny_bind (wpAny_pure ?_))
  (simp only [List.forIn_cons, List.forIn_nil])
  have hT : ∀ o : Obj, ({ s with heap := s.heap.push o } : Shared).TypeIs (.ref p) "list" := fun o => ⟨_, Heap.get?_push_of_some _ hp, rfl⟩
  refine wpAny_bind (wpAny_bind (wpAny_bind (wpAny_isInstance (T := "list") (b := false) (hT _) sub_list_str ?_)))
  (simp only [Bool.false_eq_true, if_false])
  refine wpAny_pure (wpAny_bind (wpAny_bind (wpAny_isInstance (T := "list") (b := false) (hT _) sub_list_bytesS ?_)))
  (simp only [Bool.false_eq_true, if_false])
  refine wpAny_pure (wpAny_bind (wpAny_bind (wpAny_isInstance (T := "list") (b := false) (hT _) sub_list_bytearrayS ?_)))
  (simp only [Bool.false_eq_true, if_false])
  (refine wpAny_pure (wpAny_pure ?_))
  (refine wpAny_bind (wpAny_newObj_type ?_))
  (have hlt : l < s.heap.objs.size := by obtain ⟨_, e, _⟩ := hl; exact Heap.lt_size e)
  have hpl : p < s.heap.objs.size := Heap.lt_size hp
  have low : ∀ b o, s₀.heap.get? b = some o → b < s.heap.objs.size := fun b o e => Heap.lt_size (h0 b o e)
  have sz1 : ∀ o : Obj, (s.heap.push o).objs.size = s.heap.objs.size + 1 := fun o => Heap.size_push ..
  refine wpAny_pure ⟨plainId_quiet F.plain_sum_loop _, suml_loop (s₀ := s₀) (Walks.list (A := A.in1) hh s.heap.objs.size l (Nat.ne_of_lt hlt) items) val (fun b o e hm => ?_) hval (fun i h' st b hb => ?_) _ ?_ ?_ hz items.size 0 _ p 0 rfl (Nat.zero_le _) ?_ (fun b o e => ?_) (Heap.get?_push_size _ rfl) ?_ ?_ ?_ hp0 fun h' tk q h1 h2 h3 => h h' tk q h1 h2 h3⟩
  · rcases List.mem_singleton.mp hm with rfl
    exact Nat.lt_irrefl _ (low _ _ e)
  · rcases List.mem_singleton.mp hb with rfl
    obtain ⟨⟨_, e, _⟩, _⟩ := st
    exact Heap.lt_size e
  · intro hm
    have z : (s.heap.push { cls := .type "list_iterator", data := .fields #[.ref l, .int 0 0] }).objs.size = s.heap.objs.size + 1 := Heap.size_push ..
    (rcases List.mem_cons.mp hm with e | hm)
    · exact absurd (z.symm.trans e) (Nat.succ_ne_self _)
    · have e := List.mem_singleton.mp hm
      exact absurd hlt (by rw [← e]; exact Nat.not_lt.mpr (by rw [show _ = s.heap.objs.size + 1 from z]; exact Nat.le_succ _))
  · cases e : s₀.heap.get? (s.heap.push { cls := .type "list_iterator", data := .fields #[.ref l, .int 0 0] }).objs.size with
    | none => rfl
    | some o =>
      have z : (s.heap.push { cls := .type "list_iterator", data := .fields #[.ref l, .int 0 0] }).objs.size = s.heap.objs.size + 1 := Heap.size_push ..
      exact absurd (low _ _ e) (by rw [z]; exact Nat.not_lt.mpr (Nat.le_succ _))
  · exact ⟨⟨_, Heap.get?_push_of_some _ (Heap.get?_push_size _ rfl), rfl, rfl⟩, (hl.push _).push _⟩
  · exact Heap.get?_push_of_some _ (Heap.get?_push_of_some _ (h0 b o e))
  · exact Heap.get?_push_of_some _ (Heap.get?_push_of_some _ hp)
  · exact fun hm => Nat.ne_of_lt hpl (List.mem_singleton.mp hm)
  · have z : (s.heap.push { cls := .type "list_iterator", data := .fields #[.ref l, .int 0 0] }).objs.size = s.heap.objs.size + 1 := Heap.size_push ..
    exact fun e => Nat.ne_of_lt (Nat.lt_succ_of_lt hpl) (e.trans z)
end
def flatV (f : Nat → List V) : Nat → List V
  | 0 => []
  | i + 1 => flatV f i ++ f i
def tSuml (K : PySem.W.Frag) (ta : TE) : TE := fun σ H Q => ta σ H fun x H1 => ∃ (l : Addr) (as : List Addr) (f : Nat → List V), x = .ref l ∧ SqL K H1 l (as.map V.ref) ∧ (∀ i a, as[i]? = some a → H1 a = some (.lst (f i))) ∧ (flatV f as.length).length ≤ sizeLine ∧
  ∀ q, H1 q = none → Q (.ref q) (upd H1 q (.lst (flatV f as.length)))
theorem vals_refs : ∀ {as : List Addr} {us : List Value}, Vals (as.map V.ref) us → us = as.map Value.ref
  | [], _, h => by cases h; rfl
  | a :: as, _, h => by
    cases h with
    | cons r t =>
      cases r
      rw [vals_refs t]
      rfl
/-- the items of the i-th list -/
def itsAt (h : Heap) (as : List Addr) (i : Nat) : Array Value := match as[i]? with
  | some a => (match h.get? a with
    | some ⟨_, _, .seq its _, _⟩ => its
    | _ => #[])
  | none => #[]
section
variable {X : Cx} {e : Expr} {te : TE} {x : Str} {p pos lp : Pos}
theorem itsAt_ok {pins : List (Addr × Obj)} {σ : L2.St} {H : Hp} {s : Shared} {as : List Addr} {f : Nat → List V} (I : Inv X pins σ H s) (hf : ∀ i a, as[i]? = some a → H a = some (.lst (f i))) {i : Nat} {a : Addr} (hi : as[i]? = some a) :
    Vals (f i) (itsAt s.heap as i).toList ∧ ∃ m, s.heap.get? a = some { cls := .type "list", dict := none, data := .seq (itsAt s.heap as i) m, slots := #[] } := by
  obtain ⟨z, its, n, r, hl, e⟩ := I.lstM (hf i a hi)
  have ei : itsAt s.heap as i = its.toArray := by
    unfold itsAt
    rw [hi]
    simp only [e]
  rw [ei]
  exact ⟨r, n, e⟩
theorem flat_ok {pins : List (Addr × Obj)} {σ : L2.St} {H : Hp} {s : Shared} {as : List Addr} {f : Nat → List V} (I : Inv X pins σ H s) (hf : ∀ i a, as[i]? = some a → H a = some (.lst (f i))) : ∀ n, n ≤ as.length → Vals (flatV f n) (preCat (itsAt s.heap as) n).toList
  | 0, _ => .nil
  | n + 1, h => by
    show Vals (flatV f n ++ f n) (preCat (itsAt s.heap as) n ++ itsAt s.heap as n).toList
    rw [Array.toList_append]
    exact (flat_ok I hf n (Nat.le_of_succ_le h)).append (itsAt_ok I hf (List.getElem?_eq_getElem h)).1
theorem pe_suml (hc : X.calm = true) (hg : Gl X x) (hm : X.mg x = none) (hv : bootBuiltins x = some (.builtin "sum")) (ha : PE X e te) (hn : x ≠ "__name__") (hdb : (x == ("__debug__" : Str)) = false) (hs : notStar e = true) :
    PE X (.Call (.Name x p) [e, .List [] lp] [] pos) (tSuml X.K te) := by
  (refine ⟨fun pins s σ H Q I h => ?_⟩)
  (refine wpAny_Call_Name_kw (ld_blt I hg hm hv ?_ hn hdb))
  refine PyProof.Rows.callWith_builtin1 ?_ (star_cons hs _) rfl
  rw [star_cons hs]
  show wpAny _ _ (spliced ((false, eval e X.env) :: [(false, eval (.List [] lp) X.env)])) _ _ s
  refine Calls.spliced_cons (thn (ha.run pins s σ H _ I h) fun v s1 ⟨y, H1, I1, r1, q1⟩ => Calls.spliced_cons (wpAny_List_spliced (Calls.spliced_nil ⟨Nat.zero_le _, Calls.spliced_nil ?_⟩)))
  obtain ⟨l, as, f, rfl, hS, hf, hz, q⟩ := q1
  cases r1
  obtain ⟨its, rv, hl, _⟩ := I1.list hS
  obtain rfl := vals_refs rv
  have hlen : ((as.map Value.ref).toArray).size = as.length := by rw [List.size_toArray, List.length_map]
  have hV := flat_ok I1 hf as.length (Nat.le_refl _)
  have hsz : (preCat (itsAt s1.heap as) as.length).size ≤ sizeLine := by
    exact Nat.le_trans (Nat.le_of_eq (by rw [← Array.length_toList, ← hV.length])) hz
  refine suml_raw (val := itsAt s1.heap as) (m := 0) (I1.ok.hd hc) (hl.isList.push _) s1 (fun i v hv => ?_) (by rw [hlen]; exact hsz) (Heap.get?_push_size _ rfl) (fun b o e => Heap.get?_push_of_some _ e) (Nat.le_refl _) fun h' tk q2 h1 h2 h3 => ?_
  · have hv2 : (as.map Value.ref)[i]? = some v := by rw [List.getElem?_toArray] at hv; exact hv
    rw [List.getElem?_map] at hv2
    obtain ⟨b, hb, rfl⟩ := Option.map_eq_some_iff.mp hv2
    obtain ⟨_, m, e1⟩ := itsAt_ok I1 hf hb
    exact ⟨b, m, rfl, e1⟩
  · rw [hlen] at h3
    exact ⟨.ref q2, upd H1 q2 (.lst (flatV f as.length)), I1.laid h1 h2 ⟨hz, (preCat (itsAt s1.heap as) as.length).toList, 0, hV, by rw [Array.toArray_toList]; exact h3⟩, rfl, q _ (I1.hok.fresh h2)⟩
end
section
variable {Γ : Ct} {a : Expr} {fa : FD} {pos p lp : Pos}
def sumlD (x : D) (S : Store) : Ro D := match (x.items S).bind lstsOf with
  | some ls => if ls.flatten.length ≤ SZ then .ok (.lst ls.flatten) S else .stuck
  | none => .stuck
theorem flatV_take (xss : List (List V)) : ∀ n, n ≤ xss.length → flatV (fun i => (xss[i]?).getD []) n = (xss.take n).flatten
  | 0, _ => by simp [flatV]
  | n + 1, h => by
    show flatV _ n ++ (xss[n]?).getD [] = _
    rw [flatV_take xss n (Nat.le_of_succ_le h), List.take_add_one, List.flatten_append]
    congr 1
    rw [List.getElem?_eq_getElem h]
    simp
theorem lsts_rep {T : Ks} {w : Wd} {S : Store} (k : w.ok T S) : ∀ {ds : List D} {vs : List V} {ls : List (List D)}, RVs T w ds vs → lstsOf ds = some ls → ∃ (as : List Addr) (xss : List (List V)), vs = as.map V.ref ∧ as.length = xss.length ∧
    (∀ (i : Nat) (a : Addr), as[i]? = some a → w.H a = some (.lst ((xss[i]?).getD []))) ∧ RVs T w ls.flatten xss.flatten
  | [], _, ls, r, h => by
    cases r
    cases h
    exact ⟨[], [], rfl, rfl, (fun i a e => by cases e), Reps.nil⟩
  | d :: ds, _, ls, r, h => by
    cases r with
    | cons r1 r2 =>
    cases d <;> try (cases h; done)
    rename_i xs
    obtain ⟨ls2, h2, rfl⟩ := Option.map_eq_some_iff.mp (show (lstsOf ds).map (xs :: ·) = some ls from h)
    obtain ⟨as, xss, rfl, e2, e3, e4⟩ := lsts_rep k r2 h2
    cases r1
    rename_i a vs1 hG hr
    refine ⟨a :: as, vs1 :: xss, rfl, by simp [e2], fun i b hb => ?_, ?_⟩
    · cases i with
      | zero =>
        cases hb
        exact k.sub _ _ hG
      | succ i => exact e3 i b hb
    · show Reps _ _ _ _ (xs ++ ls2.flatten) (vs1 ++ xss.flatten)
      exact Reps.append hr e4
theorem xe_suml (ha : XE Γ a fa) (hg : Γ.sc.names.lookup (Bi.nm .sum) = some .globalImplicit) (hm : Γ.M.mg (Bi.nm .sum) = none) (hs : notStar a = true) : XE Γ (.Call (.Name (Bi.nm .sum) p) [a, .List [] lp] [] pos) fun e S => (fa e S).bind fun x S => sumlD x S := by
  obtain ⟨ta, pa, sa⟩ := ha
  refine ⟨tSuml Γ.T.K ta, fun Y ok => pe_suml rfl (by show Y.env.scope.names.lookup _ = _; rw [ok.sc]; exact hg) hm rfl (pa Y ok) (by decide) (by decide) hs, Snd.seq (tb := fun (x : V) σ H1 (Q : VK) => ∃ (l : Addr) (as : List Addr) (f : Nat → List V), x = .ref l ∧ SqL Γ.T.K H1 l (as.map V.ref) ∧ (∀ i a, as[i]? = some a → H1 a = some (.lst (f i))) ∧ (flatV f as.length).length ≤ sizeLine ∧
    ∀ q, H1 q = none → Q (.ref q) (upd H1 q (.lst (flatV f as.length)))) sa fun w S e σ x v Q k he rx h => ?_⟩
  unfold sumlD at h
  split at h
  · rename_i ls hls
    obtain ⟨ds, h1, h2⟩ := Option.bind_eq_some_iff.mp hls
    split at h
    · rename_i hl
      obtain ⟨l, vs, rfl, hp, r1⟩ := items_at k rx h1
      obtain ⟨as, xss, rfl, e2, e3, e4⟩ := lsts_rep k r1 h2
      have ef : flatV (fun i => (xss[i]?).getD []) as.length = xss.flatten := by rw [flatV_take xss _ (Nat.le_of_eq e2), e2, List.take_length]
      refine ⟨l, as, fun i => (xss[i]?).getD [], rfl, .inl (.inl hp), e3, by rw [ef, ← e4.length, SZ_eq]; exact hl, fun q hq => ?_⟩
      rw [ef]
      exact post_lst k e4 h q hq
    · exact h.elim
  · exact h.elim
end
end Pv
namespace Pv
open PySem L2 PyProof.Rows
/-- names: of the defs, the constants, the classes, the errors, the fields, the first parameters; which def a class begins with; the def that tells of a call -/
structure Gs where
  fnN : List Str
  glN : List Str
  clN : List Str
  erN : List Str
  fdN : List Str
  kwN : List (Nat × Str)
  ini : List Nat
  mt : List (Nat × Nat × Str)
  mw : Str
  mwW : List Nat
  mwH : List (Nat × List Nat)
structure Sx where
  N : List Str
  sc : Scope
  top : Bool
  lm : Bool
def glB (s : Sx) (x : Str) : Bool := decide (s.sc.names.lookup x = some .globalImplicit) && !(x == ("__debug__" : Str))
def visB (sc : Scope) (x : Str) : Bool := decide (sc.names.lookup x = some .local) || decide (sc.names.lookup x = some .cell) || decide (sc.names.lookup x = some .free)
def litB : D → Expr → Bool
  | .int i, .Constant (.int j) _ _ => decide (i = j)
  | .bl i, .Constant (.bool j) _ _ => decide (i = j)
  | .non, .Constant .none _ _ => true
  | .str s, .Constant (.str x) _ _ => decide (x.cps.toList = s)
  | _, _ => false
def storeB (s : Sx) (i : Nat) (x : Str) : Bool := decide (s.N[i]? = some x) && (decide (s.sc.names.lookup x = some .local) || (s.top && decide (s.sc.names.lookup x = some .cell)))
def namesB (s : Sx) : List Nat → List Expr → Bool
  | [], [] => true
  | i :: is, .Name x _ :: es => storeB s i x && namesB s is es
  | _, _ => false
def tgB (s : Sx) : Tg → Expr → Bool
  | .nm i, .Name x _ => storeB s i x
  | .tp is, .Tuple es _ _ => namesB s is es
  | _, _ => false
def tysB (s : Sx) : List Ty → List Expr → Bool
  | [], [] => true
  | t :: ts, .Name x _ :: es => decide (x = t.sn) && glB s x && tysB s ts es
  | _, _ => false
def isTup : Expr → Bool
  | .Tuple .. => true
  | _ => false
/-- forms of a slice's part -/
def okP : Ex → Bool
  | .var _ => true | .lit _ => true | .bin _ _ _ => true | .idx _ _ => true | .neg _ => true | .bi _ _ => true | _ => false
def blkX (s : Sx) (scope : Scope) : Sx := ⟨s.N, relS scope s.sc, false, false⟩
def lamX (s : Sx) (scope : Scope) : Sx := ⟨s.N, scope, false, false⟩
/-- the names of own slots -/
def ownN (N : List Str) (own : List Nat) : List (Str × Nat) := own.map fun i => ((N[i]?).getD ⟨#[]⟩, i)
def noPar (p : Arguments) : Bool := match p with
  | ⟨[], [], none, [], [], none, []⟩ => true
  | _ => false
/-- where a test is its value's truth -/
def mB (m : Bool) (e : Expr) : Bool := !m || truEx e
mutual
def chkE (g : Gs) (s : Sx) : Bool → Ex → Expr → Bool
  | m, .var i, e => (match e with
    | .Name x _ => decide (s.N[i]? = some x) && visB s.sc x && !(x == ("__debug__" : Str)) && !(x == ("__classdict__" : Str))
    | _ => false) && mB m e
  | m, .lit d, e => litB d e && mB m e
  | m, .glb i, e => (match e with
    | .Name x _ => decide (g.glN[i]? = some x) && glB s x
    | _ => false) && mB m e
  | m, .bin o a b, e => (match e with
    | .BinOp x op y _ => decide (op = oBin o) && chkE g s false a x && chkE g s false b y
    | _ => false) && mB m e
  | m, .neg a, e => (match e with
    | .UnaryOp op x _ => decide (op = .USub) && chkE g s false a x
    | _ => false) && mB m e
  | _, .cmp o a b, e => (match e with
    | .Compare x [op] [y] _ => decide (op = oCm o) && chkE g s false a x && chkE g s false b y && !behindInMarks (oCm o) y
    | _ => false)
  | _, .chn o o' a b c, e => (match e with
    | .Compare x [op, op'] [y, z] _ => decide (op = oCm o) && decide (op' = oCm o') && chkE g s false a x && chkE g s false b y && chkE g s false c z && !lastMarks [oCm o, oCm o'] [y, z]
    | _ => false)
  | m, .and a b, e => (match e with
    | .BoolOp op (x :: y :: r) p => decide (op = .And) && chkE g s m a x && chkE g s m b (if r.isEmpty then y else .BoolOp .And (y :: r) p)
    | _ => false)
  | m, .or a b, e => (match e with
    | .BoolOp op (x :: y :: r) p => decide (op = .Or) && chkE g s m a x && chkE g s m b (if r.isEmpty then y else .BoolOp .Or (y :: r) p)
    | _ => false)
  | m, .not a, e => (match e with
    | .UnaryOp op x _ => decide (op = .Not) && chkE g s m a x
    | _ => false)
  | m, .ife c a b, e => (match e with
    | .IfExp x y z _ => chkE g s true c x && chkE g s false a y && chkE g s false b z
    | _ => false) && !m
  | m, .tup es, e => (match e with
    | .Tuple xs _ _ => chkEs g s es xs
    | _ => false) && mB m e
  | m, .lst es, e => (match e with
    | .List xs _ => chkEs g s es xs
    | _ => false) && mB m e
  | m, .nls es, e => (match e with
    | .List xs _ => chkEs g s es xs
    | _ => false) && mB m e
  | m, .edc, e => (match e with
    | .Dict [] [] _ => true
    | _ => false) && mB m e
  | m, .idx a i, e => (match e with
    | .Subscript x y _ => chkE g s false a x && chkE g s false i y && plainIx y
    | _ => false) && mB m e
  | m, .slc a lo hi, e => (match e with
    | .Subscript x (.Slice l u none _) _ => chkE g s false a x && chkP g s lo l && chkP g s hi u
    | _ => false) && mB m e
  | _, .abs, _ => false
  | m, .call f es, e => (match e with
    | .Call (.Name x _) (a :: as) [] _ => decide (g.fnN[f]? = some x) && !(x == ("" : Str)) && glB s x && chkEs g s es (a :: as)
    | .Call (.Name x _) [] [⟨some n, a, _⟩] _ => decide (g.fnN[f]? = some x) && !(x == ("" : Str)) && glB s x && decide (g.kwN.lookup f = some n) && chkEs g s es [a]
    | _ => false) && mB m e
  | m, .bi b a, e => (match e with
    | .Call (.Name x _) [y] [] _ => decide (x = b.nm) && glB s x && chkE g s false a y && notStar y
    | _ => false) && mB m e
  | m, .nli a, e => (match e with
    | .Call (.Name x _) [y] [] _ => decide (x = Bi.nm .list) && glB s x && chkE g s false a y && notStar y
    | _ => false) && mB m e
  | m, .suml a, e => (match e with
    | .Call (.Name x _) [y, .List [] _] [] _ => decide (x = Bi.nm .sum) && glB s x && chkE g s false a y && notStar y
    | _ => false) && mB m e
  | m, .isi a ts, e => (match e with
    | .Call (.Name x _) [y, .Name z p] [] _ => decide (x = ("isinstance" : Str)) && glB s x && chkE g s false a y && notStar y && tysB s ts [.Name z p]
    | .Call (.Name x _) [y, .Tuple zs _ _] [] _ => decide (x = ("isinstance" : Str)) && glB s x && chkE g s false a y && notStar y && tysB s ts zs && decide (ts.length ≤ 100)
    | _ => false) && mB m e
  | m, .me k o es, e => (match e with
    | .Call (.Attribute x n ap) (a :: as) [] p => decide (k ≠ .replace) && decide (n = k.nm) && chkE g s false o x && baseOk x && (ap.endLine == p.line) && chkEs g s es (a :: as) && decide (as.length < 20)
    | .Call (.Attribute x n ap) [] [] p => decide (k ≠ .replace) && decide (n = k.nm) && chkE g s false o x && baseOk x && (ap.endLine == p.line) && chkEs g s es []
    | _ => false) && mB m e
  | m, .fld o f, e => (match e with
    | .Attribute x n _ => decide (g.fdN[f]? = some n) && chkE g s false o x && baseOk x
    | _ => false) && mB m e
  | m, .lc r t own ifs a, e => (match e with
    | .ListComp elt [⟨tg, it, cs, 0⟩] scope _ => chkR g s r tg it && tgB (blkX s scope) t tg && chkIf g (blkX s scope) ifs cs && chkE g (blkX s scope) false a elt && blkC s.N s.sc scope (ownN s.N own) && (t.slots.all fun i => decide (i ∈ own)) && noSet it
    | _ => false) && mB m e
  | m, .mc c f o es, e => (match e with
    | .Call (.Attribute (.Name y q) n ap) (a :: as) [] p => decide ((c, f, n) ∈ g.mt) && chkE g s false o (.Name y q) && chkEs g s es (a :: as) && (ap.endLine == p.line) && decide (as.length < 19)
    | .Call (.Attribute (.Name y q) n ap) [] [] p => decide ((c, f, n) ∈ g.mt) && chkE g s false o (.Name y q) && chkEs g s es [] && (ap.endLine == p.line)
    | _ => false) && mB m e
  | m, .mk c es, e => (match e with
    | .Call (.Name x _) [] [] _ => decide (g.clN[c]? = some x) && glB s x && chkEs g s es []
    | _ => false) && mB m e
  | m, .grd hs w a, e => (match e with
    | .Call (.Name x _) [.Lambda params body scope _] [] _ => s.lm && decide (x = g.mw) && decide (w = g.mwW) && decide (hs = g.mwH) && glB s x && LamX.lamSB s.sc scope && noPar params && chkE g (lamX s scope) false a body
    | _ => false) && mB m e
def chkEs (g : Gs) (s : Sx) : Exs → List Expr → Bool
  | .nil, es => (match es with
    | [] => true
    | _ => false)
  | .cons a r, es => (match es with
    | e :: es => chkE g s false a e && notStar e && chkEs g s r es
    | _ => false)
def chkIf (g : Gs) (s : Sx) : Exs → List Expr → Bool
  | .nil, es => (match es with
    | [] => true
    | _ => false)
  | .cons a r, es => (match es with
    | [e] => chkE g s true a e && chkEs g s r []
    | _ => false)
def chkP (g : Gs) (s : Sx) : Ex → Option Expr → Bool
  | .abs, o => o.isNone
  | .var i, o => (match o with
    | some (.Name x _) => decide (s.N[i]? = some x) && visB s.sc x && !(x == ("__debug__" : Str)) && !(x == ("__classdict__" : Str))
    | _ => false)
  | .lit d, o => (match o with
    | some e => litB d e
    | _ => false)
  | .bin o a b, e => (match e with
    | some (.BinOp x op y _) => decide (op = oBin o) && chkE g s false a x && chkE g s false b y
    | _ => false)
  | .idx a i, e => (match e with
    | some (.Subscript x y _) => chkE g s false a x && chkE g s false i y && plainIx y
    | _ => false)
  | .neg a, e => (match e with
    | some (.UnaryOp op x _) => decide (op = .USub) && chkE g s false a x
    | _ => false)
  | .bi b a, e => (match e with
    | some (.Call (.Name x _) [y] [] _) => decide (x = b.nm) && glB s x && chkE g s false a y && notStar y
    | _ => false)
  | _, _ => false
def chkR (g : Gs) (s : Sx) : Sr → Expr → Expr → Bool
  | .val a, _, e => chkE g s false a e
  | .rng a, _, e => (match e with
    | .Call (.Name x _) [y] [] _ => decide (x = ("range" : Str)) && glB s x && chkE g s false a y && notStar y
    | _ => false)
  | .enm a, tg, e => (match e with
    | .Call (.Name x _) [y] [] _ => isTup tg && decide (x = ("enumerate" : Str)) && glB s x && chkE g s false a y && notStar y
    | _ => false)
  | .enf a k, tg, e => (match e with
    | .Call (.Name x _) [y, .Constant (.int c) _ _] [] _ => isTup tg && decide (x = ("enumerate" : Str)) && glB s x && chkE g s false a y && notStar y && decide (c = (k : Int)) && decide (k < 1000000)
    | _ => false)
  | .zip a b, tg, e => (match e with
    | .Call (.Name x _) [y, z] [] _ => isTup tg && decide (x = ("zip" : Str)) && glB s x && chkE g s false a y && chkE g s false b z && notStar y && notStar z
    | _ => false)
end
end Pv
namespace Pv
open PySem L2 PyProof.Rows
def freeNames : List Str := ["len", "int", "str", "list", "tuple", "sum", "all", "isinstance", "range", "enumerate", "zip", "bool", "dict"]
/-- what the names of g stand for, k calls deep -/
structure Gd (M : Gm) (k : Nat) (g : Gs) : Prop where
  free : ∀ x ∈ freeNames, M.mg x = none
  glb : ∀ (i : Nat) (x : Str), g.glN[i]? = some x → ∃ d v u, M.pg.gl[i]? = some d ∧ M.mg x = some u ∧ RelV v u ∧ ∀ w S, w.ok M.T S → RV M.T w d v
  fn : ∀ (f : Nat) (x : Str), g.fnN[f]? = some x → x ≠ ("" : Str) → ∃ fd ps, FnGood M k f fd ps ∧ M.mg x = some (.ref (M.fa f)) ∧ ∀ n, g.kwN.lookup f = some n → KBn M.T.K fd ps 0 [n] (fun _ ws => ws) (fun _ zs => zs)
  cls : ∀ c, Cls M.T.K (M.T.cls c)
  mt : ∀ c f m, (c, f, m) ∈ g.mt → (∃ fd ps, FnGood M k f fd ps) ∧ Meth M.T.K (M.T.cls c) m (M.fa f) ∧ ∀ n, M.T.fld n ≠ m
  mkc : ∀ (c : Nat) (x : Str), g.clN[c]? = some x → (∃ fd ps, FnGood M k (M.pg.init c) fd ps) ∧ Mk M.T.K (M.T.cls c) (M.fa (M.pg.init c)) ∧ M.mg x = some (.ref (M.T.cls c))
  inj : ∀ f h, M.T.fld f = M.T.fld h → f = h
  fld : ∀ (f : Nat) (x : Str), g.fdN[f]? = some x → M.T.fld f = x ∧ ∀ c, NoAttr M.T.K (M.T.cls c) x
  err : ∀ (c : Nat) (x : Str), g.erN[c]? = some x → ∃ f, ErrGood M c x f
  mw : MwGood M g.mw g.mwW g.mwH
def Ct.sx (Γ : Ct) : Sx := ⟨Γ.N, Γ.sc, Γ.top, Γ.lm.isSome⟩
/-- the code object of the lambdas' maker -/
def LmOk (Γ : Ct) : Prop := ∀ c P q, Γ.lm = some (c, P, q) → (P, q ++ ("<lambda>" : Str)) ∈ Γ.T.tabs ∧ ∀ p ∈ Γ.T.tabs, p.1 = P → p.2 = q ++ ("<lambda>" : Str)
section
variable {Γ : Ct} {g : Gs}
theorem glB_ok {x : Str} (h : glB Γ.sx x = true) : Γ.sc.names.lookup x = some .globalImplicit ∧ (x == ("__debug__" : Str)) = false := by
  unfold glB at h
  simp only [Bool.and_eq_true, decide_eq_true_eq, Bool.not_eq_true'] at h
  exact h
theorem visB_ok {sc : Scope} {x : Str} (h : visB sc x = true) : Vis sc x := by
  unfold visB at h
  simp only [Bool.or_eq_true, decide_eq_true_eq] at h
  rcases h with (h | h) | h
  · exact .inl h
  · exact .inr (.inl h)
  · exact .inr (.inr h)
theorem storeB_ok {i : Nat} {x : Str} (h : storeB Γ.sx i x = true) : StoreOk Γ i x := by
  unfold storeB at h
  simp only [Bool.and_eq_true, Bool.or_eq_true, decide_eq_true_eq] at h
  exact h
theorem namesB_ok : ∀ {is : List Nat} {es : List Expr}, namesB Γ.sx is es = true → NamesOk Γ is es
  | [], [], _ => trivial
  | [], _ :: _, h => by unfold namesB at h; cases h
  | _ :: _, [], h => by unfold namesB at h; cases h
  | i :: is, e :: es, h => by
    unfold namesB at h
    split at h
    · rename_i h1 h2; cases h1
    · rename_i h1 h2
      cases h1
      cases h2
      (simp only [Bool.and_eq_true] at h)
      exact ⟨storeB_ok h.1, namesB_ok h.2⟩
    · cases h
theorem tgB_ok {t : Tg} {e : Expr} (h : tgB Γ.sx t e = true) : XG Γ e t := by
  unfold tgB at h
  split at h
  · exact xg_nm (storeB_ok h)
  · exact xg_tp (namesB_ok h)
  · cases h
theorem tysB_ok (hf : ∀ x ∈ freeNames, Γ.M.mg x = none) : ∀ {ts : List Ty} {es : List Expr}, tysB Γ.sx ts es = true → tysAre Γ ts es
  | [], [], _ => trivial
  | [], _ :: _, h => by unfold tysB at h; cases h
  | _ :: _, [], h => by unfold tysB at h; cases h
  | t :: ts, e :: es, h => by
    unfold tysB at h
    split at h
    · rename_i h1 h2; cases h1
    · rename_i h1 h2
      cases h1
      cases h2
      (simp only [Bool.and_eq_true, decide_eq_true_eq] at h)
      obtain ⟨⟨rfl, h2⟩, h3⟩ := h
      exact ⟨rfl, (glB_ok h2).1, hf _ (by cases t <;> decide), tysB_ok hf h3⟩
    · cases h
theorem litB_ok {d : D} {e : Expr} (h : litB d e = true) : XE Γ e fun _ S => .ok d S := by
  unfold litB at h
  split at h
  · have := of_decide_eq_true h; subst this; exact xe_int
  · have := of_decide_eq_true h; subst this; exact xe_bl
  · exact xe_non
  · exact xe_str (of_decide_eq_true h)
  · cases h
theorem mem_of_own {i : Nat} {own : List Nat} {N : List Str} (h : i ∈ own) : i ∈ (ownN N own).map (·.2) := by
  unfold ownN
  rw [List.map_map]
  simpa using h
theorem own_snd {N : List Str} {own : List Nat} : (ownN N own).map (·.2) = own := by
  unfold ownN
  rw [List.map_map]
  exact List.map_id' own
/-- the value of a part of a slice -/
theorem evP_eq (cf : Cf) (v : Pv.Env) (S : Store) : ∀ {i : Ex}, okP i = true → evP cf v i S = (evE cf v false i S).bind fun x S => Ro.opt (prt x) S
  | .var i, _ => rfl
  | .lit d, _ => rfl
  | .bin o a b, _ => rfl
  | .idx a i, _ => rfl
  | .neg a, _ => rfl
  | .bi b a, _ => rfl
theorem kwE {v : Pv.Env} {S : Store} (r : Ro D) (f : D → Store → Ro (List D)) : True := trivial
/-- the pieces that stand in values and in tests -/
theorem var_ok {i : Nat} {x : Str} {p : Pos} (h : (decide (Γ.N[i]? = some x) && visB Γ.sc x && !(x == ("__debug__" : Str)) && !(x == ("__classdict__" : Str))) = true) : XE Γ (.Name x p) fun e S => Ro.opt (e.get i) S := by
  simp only [Bool.and_eq_true, decide_eq_true_eq, Bool.not_eq_true'] at h
  (obtain ⟨⟨⟨h1, h2⟩, h3⟩, h4⟩ := h)
  exact xe_var h1 (visB_ok h2) h3 h4
/-- from a value to a test -/
theorem both {ir : Ex} {e : Expr} (h : XE Γ e fun v S => evE Γ.cf v false ir S) (ht : truEx e = true) (hq : ∀ v S, evE Γ.cf v true ir S = tst true (evE Γ.cf v false ir S)) : XT Γ e fun v S => toB (evE Γ.cf v true ir S) := by
  refine (xt_truth h (tru_ex ht)).to fun v S => ?_
  show toB (evE Γ.cf v true ir S) = (evE Γ.cf v false ir S).bind fun x S => truD S x
  rw [hq]
  cases evE Γ.cf v false ir S with
  | err => rfl
  | stuck => rfl
  | ok d S1 =>
    show toB (Ro.opt ((d.truth S1).map .bl) S1) = truD S1 d
    unfold truD
    cases d.truth S1 <;> rfl
theorem toB_and (a b : Pv.Env → Store → Ro D) (v : Pv.Env) (S : Store) : toB ((a v S).bind fun x S => match x with | .bl true => b v S | .bl false => .ok (.bl false) S | _ => .stuck) = (toB (a v S)).bind fun x S => andB (fun v S => toB (b v S)) x v S := by
  cases a v S with
  | err => rfl
  | stuck => rfl
  | ok d S1 =>
    cases d with
    | bl k => cases k <;> rfl
    | _ => rfl
theorem toB_or (a b : Pv.Env → Store → Ro D) (v : Pv.Env) (S : Store) : toB ((a v S).bind fun x S => match x with | .bl true => .ok (.bl true) S | .bl false => b v S | _ => .stuck) = (toB (a v S)).bind fun x S => orB (fun v S => toB (b v S)) x v S := by
  cases a v S with
  | err => rfl
  | stuck => rfl
  | ok d S1 =>
    cases d with
    | bl k => cases k <;> rfl
    | _ => rfl
theorem toB_not (a : Pv.Env → Store → Ro D) (v : Pv.Env) (S : Store) : toB ((a v S).bind fun x S => match x with | .bl k => .ok (.bl (!k)) S | _ => .stuck) = (toB (a v S)).bind fun x S => .ok (!x) S := by
  cases a v S with
  | err => rfl
  | stuck => rfl
  | ok d S1 => cases d <;> rfl
theorem val_and (a b : Pv.Env → Store → Ro D) (v : Pv.Env) (S : Store) : ((a v S).bind fun x S => match x with | .bl true => b v S | .bl false => .ok (.bl false) S | _ => .stuck) = (a v S).bind fun x S => (blD x S).bind fun k S => andD b k v S := by
  cases a v S with
  | err => rfl
  | stuck => rfl
  | ok d S1 =>
    cases d with
    | bl k => cases k <;> rfl
    | _ => rfl
theorem val_or (a b : Pv.Env → Store → Ro D) (v : Pv.Env) (S : Store) : ((a v S).bind fun x S => match x with | .bl true => .ok (.bl true) S | .bl false => b v S | _ => .stuck) = (a v S).bind fun x S => (blD x S).bind fun k S => orD b k v S := by
  cases a v S with
  | err => rfl
  | stuck => rfl
  | ok d S1 =>
    cases d with
    | bl k => cases k <;> rfl
    | _ => rfl
theorem val_not (a : Pv.Env → Store → Ro D) (v : Pv.Env) (S : Store) : ((a v S).bind fun x S => match x with | .bl k => (Ro.ok (D.bl (!k)) S : Ro D) | _ => .stuck) = (a v S).bind fun x S => (blD x S).bind fun k S => (Ro.ok (D.bl (!k)) S : Ro D) := by
  cases a v S with
  | err => rfl
  | stuck => rfl
  | ok d S1 => cases d <;> rfl
theorem val_ife (c a b : Pv.Env → Store → Ro D) (v : Pv.Env) (S : Store) : ((c v S).bind fun x S => match x with | .bl true => a v S | .bl false => b v S | _ => .stuck) = (toB (c v S)).bind fun x S => ifD a b x v S := by
  cases c v S with
  | err => rfl
  | stuck => rfl
  | ok d S1 =>
    cases d with
    | bl k => cases k <;> rfl
    | _ => rfl
theorem toB_cmp (a b : Store → Ro D) (o : Cm) (S : Store) : toB ((a S).bind fun x S => (b S).bind fun y S => Ro.opt ((cmD o S x y).map D.bl) S) = (a S).bind fun x S => (b S).bind fun y S => Ro.opt (cmD o S x y) S := by
  cases a S with
  | err => rfl
  | stuck => rfl
  | ok d S1 =>
    show toB ((b S1).bind _) = (b S1).bind _
    cases b S1 with
    | err => rfl
    | stuck => rfl
    | ok d2 S2 =>
      show toB (Ro.opt ((cmD o S2 d d2).map D.bl) S2) = Ro.opt (cmD o S2 d d2) S2
      cases cmD o S2 d d2 <;> rfl
/-- a chain, as the evaluator has it -/
def chnE (a b : Store → Ro D) (c : Pv.Env → Store → Ro D) (o o' : Cm) (v : Pv.Env) (S : Store) : Ro D := (a S).bind fun x S => (b S).bind fun y S => (Ro.opt (cmD o S x y) S).bind fun k S =>
  if k then (c v S).bind fun z S => Ro.opt ((cmD o' S y z).map D.bl) S else .ok (.bl false) S
theorem val_chn (a b : Store → Ro D) (c : Pv.Env → Store → Ro D) (o o' : Cm) (v : Pv.Env) (S : Store) : chnE a b c o o' v S = ((a S).bind fun x S => (b S).bind fun y S => chnD o o' c x y v S).bind fun k S => .ok (.bl k) S := by
  unfold chnE
  cases a S with
  | err => rfl
  | stuck => rfl
  | ok d S1 =>
    show (b S1).bind _ = ((b S1).bind _).bind _
    cases b S1 with
    | err => rfl
    | stuck => rfl
    | ok d2 S2 =>
      show (Ro.opt (cmD o S2 d d2) S2).bind _ = (chnD o o' c d d2 v S2).bind _
      unfold chnD
      cases cmD o S2 d d2 with
      | none => rfl
      | some k =>
        cases k with
        | false => rfl
        | true =>
          show (c v S2).bind _ = ((c v S2).bind _).bind _
          cases c v S2 with
          | err => rfl
          | stuck => rfl
          | ok d3 S3 =>
            show Ro.opt ((cmD o' S3 d2 d3).map D.bl) S3 = (Ro.opt (cmD o' S3 d2 d3) S3).bind _
            cases cmD o' S3 d2 d3 <;> rfl
theorem toB_chn (a b : Store → Ro D) (c : Pv.Env → Store → Ro D) (o o' : Cm) (v : Pv.Env) (S : Store) : toB (chnE a b c o o' v S) = (a S).bind fun x S => (b S).bind fun y S => chnD o o' c x y v S := by
  rw [val_chn]
  cases ((a S).bind fun x S => (b S).bind fun y S => chnD o o' c x y v S) <;> rfl
/-- a value's part of the checker -/
theorem mB_no {e : Expr} : mB false e = true := rfl
def SndE (Γ : Ct) (ir : Ex) (e : Expr) : Prop := XE Γ e fun v S => evE Γ.cf v false ir S
def SndT (Γ : Ct) (ir : Ex) (e : Expr) : Prop := XT Γ e (fun v S => toB (evE Γ.cf v true ir S)) ∧ ((∃ op vs p, e = .BoolOp op vs p) → XW Γ e fun v S => toB (evE Γ.cf v true ir S))
/-- one node, in both ways -/
def SndN (Γ : Ct) (m : Bool) (ir : Ex) (e : Expr) : Prop := match m with
  | false => SndE Γ ir e
  | true => SndT Γ ir e
theorem SndN.val {m : Bool} {ir : Ex} {e : Expr} (h : SndE Γ ir e) (ht : mB m e = true) (hq : ∀ v S, evE Γ.cf v true ir S = tst true (evE Γ.cf v false ir S)) : SndN Γ m ir e := by
  cases m with
  | false => exact h
  | true =>
    have ht' : truEx e = true := ht
    refine ⟨both h ht' hq, fun ⟨op, vs, p, q⟩ => ?_⟩
    subst q
    cases ht'
end
end Pv
set_option
      maxHeartbeats 2000000
namespace Pv
open PySem L2 PyProof.Rows
section
variable {g : Gs}
theorem and_left {a b : Bool} (h : (a && b) = true) : a = true ∧ b = true := by simpa using h
theorem notStar_all {x : Expr} (h : notStar x = true) : [x].all notStar = true := by rw [List.all_cons, h]; rfl
/-- the arguments' part: none is starred -/
theorem chkEs_star {s : Sx} : ∀ {r : Exs} {es : List Expr}, chkEs g s r es = true → es.all notStar = true
  | .nil, es, h => by
    unfold chkEs at h
    split at h
    · rfl
    · cases h
  | .cons a r, es, h => by
    unfold chkEs at h
    split at h
    · simp only [Bool.and_eq_true] at h
      rw [List.all_cons, h.1.2, chkEs_star h.2]
      rfl
    · cases h
mutual
theorem sndN {Γ : Ct} (hG : Gd Γ.M Γ.k g) (hL : LmOk Γ) : ∀ (m : Bool) (ir : Ex) (e : Expr), chkE g Γ.sx m ir e = true → SndN Γ m ir e
  | m, .var i, e, h => by
    unfold chkE at h
    obtain ⟨h, hm⟩ := and_left h
    refine SndN.val ?_ hm fun _ _ => rfl
    split at h
    · exact (var_ok h).to fun _ _ => rfl
    · cases h
  | m, .lit d, e, h => by
    unfold chkE at h
    obtain ⟨h, hm⟩ := and_left h
    exact SndN.val ((litB_ok h).to fun _ _ => rfl) hm fun _ _ => rfl
  | m, .glb i, e, h => by
    unfold chkE at h
    obtain ⟨h, hm⟩ := and_left h
    refine SndN.val ?_ hm fun _ _ => rfl
    split at h
    · (simp only [Bool.and_eq_true, decide_eq_true_eq] at h)
      obtain ⟨h1, h2⟩ := h
      obtain ⟨d, v, u, e1, e2, e3, e4⟩ := hG.glb _ _ h1
      exact (xe_glb (glB_ok h2).1 e2 e3 (glB_ok h2).2 e1 e4).to fun _ _ => rfl
    · cases h
  | m, .bin o a b, e, h => by
    unfold chkE at h
    obtain ⟨h, hm⟩ := and_left h
    refine SndN.val ?_ hm fun _ _ => rfl
    split at h
    · (simp only [Bool.and_eq_true, decide_eq_true_eq] at h)
      obtain ⟨⟨rfl, h1⟩, h2⟩ := h
      exact (xe_bin o (sndN hG hL false a _ h1) (sndN hG hL false b _ h2)).to fun _ _ => rfl
    · cases h
  | m, .neg a, e, h => by
    unfold chkE at h
    obtain ⟨h, hm⟩ := and_left h
    refine SndN.val ?_ hm fun _ _ => rfl
    split at h
    · (simp only [Bool.and_eq_true, decide_eq_true_eq] at h)
      obtain ⟨rfl, h1⟩ := h
      exact (xe_neg (sndN hG hL false a _ h1)).to fun _ _ => rfl
    · cases h
  | m, .cmp o a b, e, h => by
    unfold chkE at h
    split at h
    · simp only [Bool.and_eq_true, decide_eq_true_eq, Bool.not_eq_true'] at h
      obtain ⟨⟨⟨rfl, h1⟩, h2⟩, h3⟩ := h
      cases m with
      | false => exact (xe_cmp o (sndN hG hL false a _ h1) (sndN hG hL false b _ h2) h3).to fun _ _ => rfl
      | true =>
        refine ⟨(xt_cmp o (sndN hG hL false a _ h1) (sndN hG hL false b _ h2) h3).to fun v S => ?_, fun ⟨_, _, _, q⟩ => by cases q⟩
        exact toB_cmp (evE Γ.cf v false a) (evE Γ.cf v false b) o S
    · cases h
  | m, .chn o o' a b c, e, h => by
    unfold chkE at h
    split at h
    · simp only [Bool.and_eq_true, decide_eq_true_eq, Bool.not_eq_true'] at h
      obtain ⟨⟨⟨⟨⟨rfl, rfl⟩, h1⟩, h2⟩, h3⟩, h4⟩ := h
      cases m with
      | false => exact (xe_chn o o' (sndN hG hL false a _ h1) (sndN hG hL false b _ h2) (sndN hG hL false c _ h3) h4).to fun v S => val_chn (evE Γ.cf v false a) (evE Γ.cf v false b) (fun v => evE Γ.cf v false c) o o' v S
      | true =>
        refine ⟨(xt_chn o o' (sndN hG hL false a _ h1) (sndN hG hL false b _ h2) (sndN hG hL false c _ h3) h4).to fun v S => ?_, fun ⟨_, _, _, q⟩ => by cases q⟩
        exact toB_chn (evE Γ.cf v false a) (evE Γ.cf v false b) (fun v => evE Γ.cf v false c) o o' v S
    · cases h
  | m, .and a b, e, h => by
    unfold chkE at h
    split at h
    · rename_i op x y r p
      (simp only [Bool.and_eq_true, decide_eq_true_eq] at h)
      obtain ⟨⟨rfl, h1⟩, h2⟩ := h
      have ha := sndN hG hL m a _ h1
      have hb := sndN hG hL m b _ h2
      cases m with
      | false =>
        have hb' : XE Γ (.BoolOp .And (y :: r) p) fun v S => evE Γ.cf v false b S := by
          cases r with
          | nil => exact xe_one hb
          | cons z r => exact hb
        exact (xe_and ha hb').to fun v S => val_and (fun v => evE Γ.cf v false a) (fun v => evE Γ.cf v false b) v S
      | true =>
        have hb' : XW Γ (.BoolOp .And (y :: r) p) fun v S => toB (evE Γ.cf v true b S) := by
          cases r with
          | nil => exact xw_and1 hb.1
          | cons z r => exact hb.2 ⟨_, _, _, rfl⟩
        have hw := (xw_and ha.1 hb').to (g := fun v S => toB (evE Γ.cf v true (.and a b) S)) fun v S => toB_and (fun v => evE Γ.cf v true a) (fun v => evE Γ.cf v true b) v S
        exact ⟨hw.xt, fun _ => hw⟩
    · cases h
  | m, .or a b, e, h => by
    unfold chkE at h
    split at h
    · rename_i op x y r p
      (simp only [Bool.and_eq_true, decide_eq_true_eq] at h)
      obtain ⟨⟨rfl, h1⟩, h2⟩ := h
      have ha := sndN hG hL m a _ h1
      have hb := sndN hG hL m b _ h2
      cases m with
      | false =>
        have hb' : XE Γ (.BoolOp .Or (y :: r) p) fun v S => evE Γ.cf v false b S := by
          cases r with
          | nil => exact xe_one hb
          | cons z r => exact hb
        exact (xe_or ha hb').to fun v S => val_or (fun v => evE Γ.cf v false a) (fun v => evE Γ.cf v false b) v S
      | true =>
        have hb' : XW Γ (.BoolOp .Or (y :: r) p) fun v S => toB (evE Γ.cf v true b S) := by
          cases r with
          | nil => exact xw_or1 hb.1
          | cons z r => exact hb.2 ⟨_, _, _, rfl⟩
        have hw := (xw_or ha.1 hb').to (g := fun v S => toB (evE Γ.cf v true (.or a b) S)) fun v S => toB_or (fun v => evE Γ.cf v true a) (fun v => evE Γ.cf v true b) v S
        exact ⟨hw.xt, fun _ => hw⟩
    · cases h
  | m, .not a, e, h => by
    unfold chkE at h
    split at h
    · (simp only [Bool.and_eq_true, decide_eq_true_eq] at h)
      obtain ⟨rfl, h1⟩ := h
      have ha := sndN hG hL m a _ h1
      cases m with
      | false => exact (xe_not ha).to fun v S => val_not (fun v => evE Γ.cf v false a) v S
      | true => exact ⟨(xt_not ha.1).to fun v S => toB_not (fun v => evE Γ.cf v true a) v S, fun ⟨_, _, _, q⟩ => by cases q⟩
    · cases h
  | m, .ife c a b, e, h => by
    unfold chkE at h
    obtain ⟨h0, hm⟩ := and_left h
    have hm' : m = false := by simpa using hm
    subst hm'
    clear h
    have h := h0
    clear h0
    split at h
    · simp only [Bool.and_eq_true] at h
      obtain ⟨⟨h1, h2⟩, h3⟩ := h
      exact (xe_ife (sndN hG hL true c _ h1).1 (sndN hG hL false a _ h2) (sndN hG hL false b _ h3)).to fun v S => val_ife (fun v => evE Γ.cf v true c) (fun v => evE Γ.cf v false a) (fun v => evE Γ.cf v false b) v S
    · cases h
  | m, .tup es, e, h => by
    unfold chkE at h
    obtain ⟨h, hm⟩ := and_left h
    refine SndN.val ?_ hm fun _ _ => rfl
    split at h
    · exact (xe_tup (sndEs hG hL es _ h)).to fun _ _ => rfl
    · cases h
  | m, .lst es, e, h => by
    unfold chkE at h
    obtain ⟨h, hm⟩ := and_left h
    refine SndN.val ?_ hm fun _ _ => rfl
    split at h
    · exact (xe_lst (sndEs hG hL es _ h)).to fun _ _ => rfl
    · cases h
  | m, .nls es, e, h => by
    unfold chkE at h
    obtain ⟨h, hm⟩ := and_left h
    refine SndN.val ?_ hm fun _ _ => rfl
    split at h
    · exact (xe_nls (sndEs hG hL es _ h)).to fun _ _ => rfl
    · cases h
  | m, .edc, e, h => by
    unfold chkE at h
    obtain ⟨h, hm⟩ := and_left h
    refine SndN.val ?_ hm fun _ _ => rfl
    split at h
    · exact xe_edc.to fun _ _ => rfl
    · cases h
  | m, .idx a i, e, h => by
    unfold chkE at h
    obtain ⟨h, hm⟩ := and_left h
    refine SndN.val ?_ hm fun _ _ => rfl
    split at h
    · simp only [Bool.and_eq_true] at h
      obtain ⟨⟨h1, h2⟩, h3⟩ := h
      exact (xe_idx (sndN hG hL false a _ h1) (sndN hG hL false i _ h2) (plain_ix h3)).to fun _ _ => rfl
    · cases h
  | m, .slc a lo hi, e, h => by
    unfold chkE at h
    obtain ⟨h, hm⟩ := and_left h
    refine SndN.val ?_ hm fun _ _ => rfl
    split at h
    · simp only [Bool.and_eq_true] at h
      obtain ⟨⟨h1, h2⟩, h3⟩ := h
      exact (xe_slc (sndN hG hL false a _ h1) (sndP hG hL lo _ h2) (sndP hG hL hi _ h3)).to fun _ _ => rfl
    · cases h
  | m, .abs, e, h => by
    unfold chkE at h
    cases h
  | m, .call f es, e, h => by
    unfold chkE at h
    obtain ⟨h, hm⟩ := and_left h
    refine SndN.val ?_ hm fun _ _ => rfl
    split at h
    · simp only [Bool.and_eq_true, decide_eq_true_eq, Bool.not_eq_true', beq_eq_false_iff_ne] at h
      (obtain ⟨⟨⟨h1, h2⟩, h3⟩, h4⟩ := h)
      obtain ⟨fd, ps, F, e1, _⟩ := hG.fn _ _ h1 h2
      exact (xe_call F (sndEs hG hL es _ h4) (glB_ok h3).1 e1 (glB_ok h3).2 (chkEs_star h4)).to fun _ _ => rfl
    · simp only [Bool.and_eq_true, decide_eq_true_eq, Bool.not_eq_true', beq_eq_false_iff_ne] at h
      obtain ⟨⟨⟨⟨h1, h2⟩, h3⟩, h4⟩, h5⟩ := h
      obtain ⟨fd, ps, F, e1, e2⟩ := hG.fn _ _ h1 h2
      cases es with
      | nil => unfold chkEs at h5; cases h5
      | cons a r =>
        unfold chkEs at h5
        simp only [Bool.and_eq_true] at h5
        obtain ⟨⟨h6, _⟩, h7⟩ := h5
        cases r with
        | cons b r => unfold chkEs at h7; cases h7
        | nil =>
          refine (xe_callK1 F (e2 _ h4) (sndN hG hL false a _ h6) (glB_ok h3).1 e1 (glB_ok h3).2).to fun v S => ?_
          show ((evE Γ.cf v false a S).bind fun x S => (Ro.ok [] S).bind fun xs S => .ok (x :: xs) S).bind (fun xs S => Γ.cf.call f xs S) = _
          cases evE Γ.cf v false a S <;> rfl
    · cases h
  | m, .bi b a, e, h => by
    unfold chkE at h
    obtain ⟨h, hm⟩ := and_left h
    refine SndN.val ?_ hm fun _ _ => rfl
    split at h
    · (simp only [Bool.and_eq_true, decide_eq_true_eq] at h)
      obtain ⟨⟨⟨rfl, h1⟩, h2⟩, h3⟩ := h
      exact (xe_bi b (sndN hG hL false a _ h2) (glB_ok h1).1 (hG.free _ (by cases b <;> decide)) h3).to fun _ _ => rfl
    · cases h
  | m, .nli a, e, h => by
    unfold chkE at h
    obtain ⟨h, hm⟩ := and_left h
    refine SndN.val ?_ hm fun _ _ => rfl
    split at h
    · (simp only [Bool.and_eq_true, decide_eq_true_eq] at h)
      obtain ⟨⟨⟨rfl, h1⟩, h2⟩, h3⟩ := h
      exact (xe_nli (sndN hG hL false a _ h2) (glB_ok h1).1 (hG.free _ (by decide)) h3).to fun _ _ => rfl
    · cases h
  | m, .suml a, e, h => by
    unfold chkE at h
    obtain ⟨h, hm⟩ := and_left h
    refine SndN.val ?_ hm fun _ _ => rfl
    split at h
    · (simp only [Bool.and_eq_true, decide_eq_true_eq] at h)
      obtain ⟨⟨⟨rfl, h1⟩, h2⟩, h3⟩ := h
      exact (xe_suml (sndN hG hL false a _ h2) (glB_ok h1).1 (hG.free _ (by decide)) h3).to fun _ _ => rfl
    · cases h
  | m, .isi a ts, e, h => by
    unfold chkE at h
    obtain ⟨h, hm⟩ := and_left h
    refine SndN.val ?_ hm fun _ _ => rfl
    split at h
    · (simp only [Bool.and_eq_true, decide_eq_true_eq] at h)
      obtain ⟨⟨⟨⟨rfl, h1⟩, h2⟩, h3⟩, h4⟩ := h
      have ht := tysB_ok hG.free h4
      match ts, ht with
      | [t], ht => exact (xe_isi1 (sndN hG hL false a _ h2) (glB_ok h1).1 (hG.free _ (by decide)) h3 ht).to fun _ _ => rfl
    · (simp only [Bool.and_eq_true, decide_eq_true_eq] at h)
      obtain ⟨⟨⟨⟨⟨rfl, h1⟩, h2⟩, h3⟩, h4⟩, h5⟩ := h
      exact (xe_isiT (sndN hG hL false a _ h2) (glB_ok h1).1 (hG.free _ (by decide)) h3 (tysB_ok hG.free h4) h5).to fun _ _ => rfl
    · cases h
  | m, .me k o es, e, h => by
    unfold chkE at h
    obtain ⟨h, hm⟩ := and_left h
    refine SndN.val ?_ hm fun _ _ => rfl
    split at h
    · (simp only [Bool.and_eq_true, decide_eq_true_eq] at h)
      obtain ⟨⟨⟨⟨⟨⟨h1, rfl⟩, h2⟩, h3⟩, h4⟩, h5⟩, h6⟩ := h
      exact (xe_me k h1 (sndN hG hL false o _ h2) (sndEs hG hL es _ h5) h3 h4 (chkEs_star h5) h6).to fun _ _ => rfl
    · (simp only [Bool.and_eq_true, decide_eq_true_eq] at h)
      obtain ⟨⟨⟨⟨⟨h1, rfl⟩, h2⟩, h3⟩, h4⟩, h5⟩ := h
      cases es with
      | cons a r => unfold chkEs at h5; cases h5
      | nil => exact (xe_me0 k h1 (sndN hG hL false o _ h2) h3 h4).to fun _ _ => rfl
    · cases h
  | m, .fld o f, e, h => by
    unfold chkE at h
    obtain ⟨h, hm⟩ := and_left h
    refine SndN.val ?_ hm fun _ _ => rfl
    split at h
    · (simp only [Bool.and_eq_true, decide_eq_true_eq] at h)
      obtain ⟨⟨h1, h2⟩, h3⟩ := h
      obtain ⟨e1, e2⟩ := hG.fld _ _ h1
      subst e1
      exact (xe_fld hG.inj hG.cls e2 (sndN hG hL false o _ h2) h3).to fun _ _ => rfl
    · cases h
  | m, .lc r t own ifs a, e, h => by
    unfold chkE at h
    obtain ⟨h, hm⟩ := and_left h
    refine SndN.val ?_ hm fun _ _ => rfl
    split at h
    · rename_i elt tg it cs scope pos _
      (simp only [Bool.and_eq_true] at h)
      (obtain ⟨⟨⟨⟨⟨⟨h1, h2⟩, h3⟩, h4⟩, h5⟩, h6⟩, h7⟩ := h)
      have hL' : LmOk (Γ.blk scope) := fun _ _ _ q => by cases q
      have := xe_lc (pos := pos) (sndR hG hL r _ _ h1) (tgB_ok (Γ := Γ.blk scope) h2) (sndIf (Γ := Γ.blk scope) hG hL' ifs _ h3) (sndN (Γ := Γ.blk scope) hG hL' false a _ h4) h5 (fun i hi => mem_of_own (N := Γ.N) (by
        rw [List.all_eq_true] at h6
        simpa using h6 i hi)) h7
      exact this.to fun v S => by rw [own_snd]; rfl
    · cases h
  | m, .mc c f o es, e, h => by
    unfold chkE at h
    obtain ⟨h, hm⟩ := and_left h
    refine SndN.val ?_ hm fun _ _ => rfl
    split at h
    · (simp only [Bool.and_eq_true, decide_eq_true_eq] at h)
      obtain ⟨⟨⟨⟨h1, h2⟩, h3⟩, h4⟩, h5⟩ := h
      obtain ⟨⟨fd, ps, F⟩, hM, hn⟩ := hG.mt _ _ _ h1
      exact (xe_mc F (hG.cls c) hM hn (sndN hG hL false o _ h2) (sndEs hG hL es _ h3) (chkEs_star h3) h4 h5).to fun _ _ => rfl
    · (simp only [Bool.and_eq_true, decide_eq_true_eq] at h)
      (obtain ⟨⟨⟨h1, h2⟩, h3⟩, h4⟩ := h)
      obtain ⟨⟨fd, ps, F⟩, hM, hn⟩ := hG.mt _ _ _ h1
      cases es with
      | cons a r => unfold chkEs at h3; cases h3
      | nil => exact (xe_mc0 F (hG.cls c) hM hn (sndN hG hL false o _ h2) h4).to fun _ _ => rfl
    · cases h
  | m, .mk c es, e, h => by
    unfold chkE at h
    obtain ⟨h, hm⟩ := and_left h
    refine SndN.val ?_ hm fun _ _ => rfl
    split at h
    · (simp only [Bool.and_eq_true, decide_eq_true_eq] at h)
      obtain ⟨⟨h1, h2⟩, h3⟩ := h
      obtain ⟨⟨fd, ps, F⟩, hM, e1⟩ := hG.mkc _ _ h1
      cases es with
      | cons a r => unfold chkEs at h3; cases h3
      | nil => exact (xe_mk0 F hM (glB_ok h2).1 e1 (glB_ok h2).2).to fun _ _ => rfl
    · cases h
  | m, .grd hs w a, e, h => by
    unfold chkE at h
    obtain ⟨h, hm⟩ := and_left h
    refine SndN.val ?_ hm fun _ _ => rfl
    split at h
    · rename_i x px params body scope pl pc _
      (simp only [Bool.and_eq_true, decide_eq_true_eq] at h)
      obtain ⟨⟨⟨⟨⟨⟨⟨h1, rfl⟩, rfl⟩, rfl⟩, h2⟩, h3⟩, h4⟩, h5⟩ := h
      obtain ⟨p, hp⟩ := Option.isSome_iff_exists.mp (show Γ.lm.isSome = true from h1)
      obtain ⟨c, P, q⟩ := p
      obtain ⟨t1, t2⟩ := hL c P q hp
      have hpar : params = ⟨[], [], none, [], [], none, []⟩ := by
        unfold noPar at h4
        split at h4
        · rfl
        · cases h4
      exact (xe_grd (fe := fun v S => evE Γ.cf v false a S) hG.mw hp t1 t2 h3 hpar (glB_ok h2).1 (glB_ok h2).2 fun E => sndN (Γ := Γ.lamC scope E) hG (fun _ _ _ q => by cases q) false a _ h5).to fun _ _ => rfl
    · cases h
theorem sndEs {Γ : Ct} (hG : Gd Γ.M Γ.k g) (hL : LmOk Γ) : ∀ (r : Exs) (es : List Expr), chkEs g Γ.sx r es = true → XA Γ es fun v S => evEs Γ.cf v r S
  | .nil, es, h => by
    unfold chkEs at h
    split at h
    · exact xa_nil.to fun _ _ => rfl
    · cases h
  | .cons a r, es, h => by
    unfold chkEs at h
    split at h
    · simp only [Bool.and_eq_true] at h
      obtain ⟨⟨h1, h2⟩, h3⟩ := h
      exact (xa_cons (sndN hG hL false a _ h1) (sndEs hG hL r _ h3) (star_cons h2)).to fun _ _ => rfl
    · cases h
theorem sndIf {Γ : Ct} (hG : Gd Γ.M Γ.k g) (hL : LmOk Γ) : ∀ (r : Exs) (es : List Expr), chkIf g Γ.sx r es = true → XTs Γ es fun v S => evIf Γ.cf v r S
  | .nil, es, h => by
    unfold chkIf at h
    split at h
    · exact xts_nil
    · cases h
  | .cons a r, es, h => by
    unfold chkIf at h
    split at h
    · simp only [Bool.and_eq_true] at h
      exact xts_one (((sndN hG hL true a _ h.1).1).to fun _ _ => rfl)
    · cases h
theorem sndP {Γ : Ct} (hG : Gd Γ.M Γ.k g) (hL : LmOk Γ) : ∀ (i : Ex) (o : Option Expr), chkP g Γ.sx i o = true → XO Γ o fun v S => evP Γ.cf v i S
  | .abs, o, h => by
    unfold chkP at h
    cases o with
    | none => exact xo_none
    | some => cases h
  | .var i, o, h => by
    unfold chkP at h
    split at h
    · exact (xo_some (var_ok h)).to fun _ _ => rfl
    · cases h
  | .lit d, o, h => by
    unfold chkP at h
    split at h
    · exact (xo_some (litB_ok h)).to fun _ _ => rfl
    · cases h
  | .bin q a b, o, h => by
    unfold chkP at h
    split at h
    · (simp only [Bool.and_eq_true, decide_eq_true_eq] at h)
      obtain ⟨⟨rfl, h1⟩, h2⟩ := h
      exact (xo_some (xe_bin q (sndN hG hL false a _ h1) (sndN hG hL false b _ h2))).to fun _ _ => rfl
    · cases h
  | .idx a i, o, h => by
    unfold chkP at h
    split at h
    · simp only [Bool.and_eq_true] at h
      obtain ⟨⟨h1, h2⟩, h3⟩ := h
      exact (xo_some (xe_idx (sndN hG hL false a _ h1) (sndN hG hL false i _ h2) (plain_ix h3))).to fun _ _ => rfl
    · cases h
  | .neg a, o, h => by
    unfold chkP at h
    split at h
    · (simp only [Bool.and_eq_true, decide_eq_true_eq] at h)
      obtain ⟨rfl, h1⟩ := h
      exact (xo_some (xe_neg (sndN hG hL false a _ h1))).to fun _ _ => rfl
    · cases h
  | .bi b a, o, h => by
    unfold chkP at h
    split at h
    · (simp only [Bool.and_eq_true, decide_eq_true_eq] at h)
      obtain ⟨⟨⟨rfl, h1⟩, h2⟩, h3⟩ := h
      exact (xo_some (xe_bi b (sndN hG hL false a _ h2) (glB_ok h1).1 (hG.free _ (by cases b <;> decide)) h3)).to fun _ _ => rfl
    · cases h
  | .glb _, o, h => by unfold chkP at h; cases h
  | .cmp _ _ _, o, h => by unfold chkP at h; cases h
  | .chn _ _ _ _ _, o, h => by unfold chkP at h; cases h
  | .and _ _, o, h => by unfold chkP at h; cases h
  | .or _ _, o, h => by unfold chkP at h; cases h
  | .not _, o, h => by unfold chkP at h; cases h
  | .ife _ _ _, o, h => by unfold chkP at h; cases h
  | .tup _, o, h => by unfold chkP at h; cases h
  | .lst _, o, h => by unfold chkP at h; cases h
  | .nls _, o, h => by unfold chkP at h; cases h
  | .edc, o, h => by unfold chkP at h; cases h
  | .slc _ _ _, o, h => by unfold chkP at h; cases h
  | .call _ _, o, h => by unfold chkP at h; cases h
  | .nli _, o, h => by unfold chkP at h; cases h
  | .suml _, o, h => by unfold chkP at h; cases h
  | .isi _ _, o, h => by unfold chkP at h; cases h
  | .me _ _ _, o, h => by unfold chkP at h; cases h
  | .fld _ _, o, h => by unfold chkP at h; cases h
  | .lc _ _ _ _ _, o, h => by unfold chkP at h; cases h
  | .mc _ _ _ _, o, h => by unfold chkP at h; cases h
  | .mk _ _, o, h => by unfold chkP at h; cases h
  | .grd _ _ _, o, h => by unfold chkP at h; cases h
theorem sndR {Γ : Ct} (hG : Gd Γ.M Γ.k g) (hL : LmOk Γ) : ∀ (r : Sr) (tg e : Expr), chkR g Γ.sx r tg e = true → XI Γ tg e fun v S => evR Γ.cf v r S
  | .val a, tg, e, h => by
    unfold chkR at h
    exact (xi_val (sndN hG hL false a _ h)).to fun _ _ => rfl
  | .rng a, tg, e, h => by
    unfold chkR at h
    split at h
    · (simp only [Bool.and_eq_true, decide_eq_true_eq] at h)
      obtain ⟨⟨⟨rfl, h1⟩, h2⟩, h3⟩ := h
      exact (xi_rng (sndN hG hL false a _ h2) (glB_ok h1).1 (hG.free _ (by decide)) h3).to fun _ _ => rfl
    · cases h
  | .enm a, tg, e, h => by
    unfold chkR at h
    split at h
    · (simp only [Bool.and_eq_true, decide_eq_true_eq] at h)
      obtain ⟨⟨⟨⟨h0, rfl⟩, h1⟩, h2⟩, h3⟩ := h
      cases tg <;> first | (cases h0; done) | exact (xi_enm (sndN hG hL false a _ h2) (glB_ok h1).1 (hG.free _ (by decide)) h3).to fun _ _ => rfl
    · cases h
  | .enf a k, tg, e, h => by
    unfold chkR at h
    split at h
    · (simp only [Bool.and_eq_true, decide_eq_true_eq] at h)
      obtain ⟨⟨⟨⟨⟨⟨h0, rfl⟩, h1⟩, h2⟩, h3⟩, rfl⟩, h5⟩ := h
      cases tg <;> first | (cases h0; done) | exact (xi_enf h5 (sndN hG hL false a _ h2) (glB_ok h1).1 (hG.free _ (by decide)) h3).to fun _ _ => rfl
    · cases h
  | .zip a b, tg, e, h => by
    unfold chkR at h
    split at h
    · (simp only [Bool.and_eq_true, decide_eq_true_eq] at h)
      obtain ⟨⟨⟨⟨⟨⟨h0, rfl⟩, h1⟩, h2⟩, h3⟩, h4⟩, h5⟩ := h
      cases tg <;> first | (cases h0; done) | exact (xi_zip (sndN hG hL false a _ h2) (sndN hG hL false b _ h3) (glB_ok h1).1 (hG.free _ (by decide)) h4 h5).to fun _ _ => rfl
    · cases h
end
end
end Pv
set_option
      maxHeartbeats 2000000
namespace Pv
open PySem L2 PyProof.Rows
/-- several names at once -/
def parB (g : Gs) (s : Sx) (es : Exs) : List Nat → List Expr → List Expr → Bool
  | [i, j], [.Name x px, .Name y py], [a, b] => chkEs g s es [a, b] && decide (s.sc.kind = .function) && (py.line == px.line) &&
      ((decide (s.N[i]? = some x) && decide (s.N[j]? = some y) && decide (i ≠ j) && decide (s.sc.names.lookup x = some .local) && decide (s.sc.names.lookup y = some .local) && !(y == x) && !([a, b].all (foldedForSure 8)) && !([a, b].all (constantsAlone 8))) ||
       (storeB s i x && storeB s j y && (decide (s.sc.names.lookup x = some .cell) || decide (s.sc.names.lookup y = some .cell))))
  | [i, j, l], [.Name x px, .Name y py, .Name z pz], [a, b, c] => chkEs g s es [a, b, c] && decide (s.sc.kind = .function) && (py.line == px.line) && (pz.line == px.line) &&
      (decide (s.N[i]? = some x) && decide (s.N[j]? = some y) && decide (s.N[l]? = some z) && decide (i ≠ j) && decide (i ≠ l) && decide (j ≠ l) && decide (s.sc.names.lookup x = some .local) && decide (s.sc.names.lookup y = some .local) && decide (s.sc.names.lookup z = some .local) && !(y == x) && !(z == x) && !(z == y) &&
        !([a, b, c].all (foldedForSure 8)) && !([a, b, c].all (constantsAlone 8)))
  | _, _, _ => false
/-- code that is never come to -/
def isAbs : Ex → Bool
  | .abs => true
  | _ => false
mutual
def chkS (g : Gs) (s : Sx) : Sm → Stmt → Bool
  | .set i a, st => (match st with
    | .Assign [.Name x p] e _ => (noComp e && storeB s i x && chkE g s false a e) || (match a with
      | .lc r t own ifs el => (match e with
        | .ListComp elt [⟨tg, it, cs, 0⟩] scope lp => decide (s.N[i]? = some x) && decide (s.sc.names.lookup x = some .local) && decide (s.sc.kind = .function) && (p.line == lp.line) && !(scope.names.any fun (n, k) => n == x && (k == .local || k == .cell)) &&
            chkR g s r tg it && tgB (blkX s scope) t tg && chkIf g (blkX s scope) ifs cs && chkE g (blkX s scope) false el elt && blkC s.N s.sc scope (ownN s.N own) && (t.slots.all fun i => decide (i ∈ own)) && noSet it
        | _ => false)
      | _ => false)
    | _ => false)
  | .cat i a b, st => (match st with
    | .Assign [.Name x _] (.BinOp y op z _) _ => decide (op = .Add) && storeB s i x && chkE g s false a y && chkE g s false b z
    | _ => false)
  | .par is es, st => (match st with
    | .Assign [.Tuple ts _ _] (.Tuple vs _ _) _ => parB g s es is ts vs
    | _ => false)
  | .unp is a, st => (match st with
    | .Assign [.Tuple ts _ _] e _ => namesB s is ts && noTup e && noComp e && chkE g s false a e
    | _ => false)
  | .aug i o a, st => (match st with
    | .AugAssign (.Name x _) op e _ => decide (op = oBin o) && augOk o && storeB s i x && chkE g s false a e
    | _ => false)
  | .sti o i a, st => (match st with
    | .Assign [.Subscript x y _] e _ => plainIx y && noTup e && noComp e && chkE g s false o x && chkE g s false i y && chkE g s false a e
    | _ => false)
  | .sfl o f a, st => (match st with
    | .Assign [.Attribute x n _] e _ => decide (g.fdN[f]? = some n) && chkE g s false o x && chkE g s false a e
    | _ => false)
  | .afl o f q a, st => (match st with
    | .AugAssign (.Attribute x n _) op e _ => decide (op = oBin q) && augOk q && decide (g.fdN[f]? = some n) && chkE g s false o x && chkE g s false a e
    | _ => false)
  | .ex a, st => (match st with
    | .Expr e _ => noComp e && chkE g s false a e
    | _ => false)
  | .ret a, st => isAbs a || (match st with
    | .Return (some e) _ => chkE g s false a e
    | _ => false)
  | .retn, st => (match st with
    | .Return none _ => true
    | _ => false)
  | .ife c a b, st => (match st with
    | .If e x y _ => chkE g s true c e && chkSs g s a x && chkSs g s b y
    | _ => false)
  | .whl c b, st => (match st with
    | .While e x [] _ => chkE g s true c e && chkSs g s b x
    | _ => false)
  | .for_ r t b, st => (match st with
    | .For tg it x [] _ => chkR g s r tg it && tgB s t tg && noSet it && chkSs g s b x
    | _ => false)
  | .rse c es, st => (match st with
    | .Raise (some (.Call (.Name x _) [a] [] _)) none _ => decide (g.erN[c]? = some x) && glB s x && chkEs g s es [a]
    | _ => false)
  | .pass, st => (match st with
    | .Pass _ => true
    | _ => false)
  | .brk, st => (match st with
    | .Break _ => true
    | _ => false)
  | .cnt, st => (match st with
    | .Continue _ => true
    | _ => false)
def chkSs (g : Gs) (s : Sx) : Sms → List Stmt → Bool
  | .nil, l => (match l with
    | [] => true
    | _ => false)
  | .cons a r, l => (match l with
    | x :: xs => chkS g s a x && chkSs g s r xs
    | _ => false)
end
section
variable {g : Gs}
theorem par_ok {Γ : Ct} (hG : Gd Γ.M Γ.k g) (hL : LmOk Γ) {es : Exs} {is : List Nat} {ts vs : List Expr} {k1 k2 : Nat} {p1 p2 pos : Pos} (h : parB g Γ.sx es is ts vs = true) :
    XS Γ (.Assign [.Tuple ts k1 p1] (.Tuple vs k2 p2) pos) fun e S => (evEs Γ.cf e es S).bind fun xs S => parS is xs e S := by
  unfold parB at h
  split at h
  · simp only [Bool.and_eq_true, Bool.or_eq_true, decide_eq_true_eq, Bool.not_eq_true', beq_eq_false_iff_ne] at h
    (obtain ⟨⟨⟨h1, h2⟩, h3⟩, h4⟩ := h)
    have ha := sndEs hG hL es _ h1
    have hst := chkEs_star h1
    rcases h4 with ⟨⟨⟨⟨⟨⟨⟨e1, e2⟩, e3⟩, e4⟩, e5⟩, e6⟩, e7⟩, e8⟩ | ⟨⟨e1, e2⟩, e3⟩
    · exact xs_par2 ha e1 e2 e3 e4 e5 h2 (beq_eq_false_iff_ne.mpr e6) h3 hst e7 e8
    · exact xs_parC ha (storeB_ok e1) (storeB_ok e2) h2 e3 h3 hst
  · simp only [Bool.and_eq_true, decide_eq_true_eq, Bool.not_eq_true', beq_eq_false_iff_ne] at h
    obtain ⟨⟨⟨⟨h1, h2⟩, h3⟩, h4⟩, ⟨⟨⟨⟨⟨⟨⟨⟨⟨⟨⟨⟨⟨e1, e2⟩, e3⟩, e4⟩, e5⟩, e6⟩, e7⟩, e8⟩, e9⟩, e10⟩, e11⟩, e12⟩, e13⟩, e14⟩⟩ := h
    have ha := sndEs hG hL es _ h1
    exact xs_par3 ha e1 e2 e3 e4 e5 e6 e7 e8 e9 h2 (beq_eq_false_iff_ne.mpr e10) (beq_eq_false_iff_ne.mpr e11) (beq_eq_false_iff_ne.mpr e12) h3 h4 (chkEs_star h1) e13 e14
  · cases h
theorem xs_never {Γ : Ct} {st : Stmt} : XS Γ st fun _ _ => .stuck := ⟨tNever, fun _ _ => ps_never, fun _ _ _ _ _ _ _ h => h.elim⟩
theorem if_eq (c : Pv.Env → Store → Ro D) (a b : FS) (v : Pv.Env) (S : Store) : ((c v S).bind fun x S => match x with | .bl true => a v S | .bl false => b v S | _ => .stuck) = (toB (c v S)).bind fun x S => ifS a b x v S := by
  cases c v S with
  | err => rfl
  | stuck => rfl
  | ok d S1 =>
    cases d with
    | bl k => cases k <;> rfl
    | _ => rfl
theorem seq_eq (r : Ro Fl) (f : FS) : (r.bind fun fl S => match fl with | .nx e => f e S | fl => .ok fl S) = thenS r f := by
  cases r with
  | err => rfl
  | stuck => rfl
  | ok fl S => cases fl <;> rfl
theorem cat_eq (a b : Store → Ro D) (i : Nat) (e : Pv.Env) (S : Store) : ((a S).bind fun x S => (b S).bind fun y S => match x.items S, y.items S with
    | some xs, some ys => if xs.length + ys.length ≤ SZ then .ok (.nx (e.set i (some (.obj S.length)))) (S ++ [.lst (xs ++ ys)]) else .stuck
    | _, _ => .stuck) = ((a S).bind fun x S => (b S).bind fun y S => catD x y S).bind fun z S => (Ro.ok (Fl.nx (e.set i (some z))) S : Ro Fl) := by
  cases a S with
  | err => rfl
  | stuck => rfl
  | ok x S1 =>
    show (b S1).bind _ = ((b S1).bind _).bind _
    cases b S1 with
    | err => rfl
    | stuck => rfl
    | ok y S2 =>
      show (match x.items S2, y.items S2 with
        | some xs, some ys => if xs.length + ys.length ≤ SZ then Ro.ok (Fl.nx (e.set i (some (.obj S2.length)))) (S2 ++ [.lst (xs ++ ys)]) else .stuck
        | _, _ => .stuck) = (catD x y S2).bind _
      unfold catD
      cases x.items S2 with
      | none => rfl
      | some xs =>
        cases y.items S2 with
        | none => rfl
        | some ys =>
          simp only
          split <;> rfl
mutual
theorem sndS {Γ : Ct} (hG : Gd Γ.M Γ.k g) (hL : LmOk Γ) : ∀ (ir : Sm) (st : Stmt), chkS g Γ.sx ir st = true → XS Γ st fun v S => evS Γ.cf ir v S
  | .set i a, st, h => by
    unfold chkS at h
    split at h
    · rename_i x p e pos
      rw [Bool.or_eq_true] at h
      rcases h with h | h
      · simp only [Bool.and_eq_true] at h
        obtain ⟨⟨h1, h2⟩, h3⟩ := h
        exact (xs_set (storeB_ok h2) (sndN hG hL false a _ h3) h1).to fun _ _ => rfl
      · split at h
        · rename_i r t own ifs el
          split at h
          · rename_i elt tg it cs scope lp
            simp only [Bool.and_eq_true, decide_eq_true_eq, Bool.not_eq_true'] at h
            obtain ⟨⟨⟨⟨⟨⟨⟨⟨⟨⟨⟨q1, q2⟩, q3⟩, q4⟩, q5⟩, h1⟩, h2⟩, h3⟩, h4⟩, h5⟩, h6⟩, h7⟩ := h
            have hL' : LmOk (Γ.blk scope) := fun _ _ _ q => by cases q
            have := xs_setLc (p := p) (lp := lp) (pos := pos) q1 q2 q3 q4 q5 (sndR hG hL r _ _ h1) (tgB_ok (Γ := Γ.blk scope) h2) (sndIf (Γ := Γ.blk scope) hG hL' ifs _ h3) (sndN (Γ := Γ.blk scope) hG hL' false el _ h4) h5 (fun i hi => mem_of_own (N := Γ.N) (by
              rw [List.all_eq_true] at h6
              simpa using h6 i hi)) h7
            exact this.to fun v S => by rw [own_snd]; rfl
          · cases h
        · cases h
    · cases h
  | .cat i a b, st, h => by
    unfold chkS at h
    split at h
    · (simp only [Bool.and_eq_true, decide_eq_true_eq] at h)
      obtain ⟨⟨⟨rfl, h1⟩, h2⟩, h3⟩ := h
      exact (xs_set (storeB_ok h1) (xe_cat (sndN hG hL false a _ h2) (sndN hG hL false b _ h3)) rfl).to fun v S => cat_eq (fun S => evE Γ.cf v false a S) (fun S => evE Γ.cf v false b S) i v S
    · cases h
  | .par is es, st, h => by
    unfold chkS at h
    split at h
    · exact (par_ok hG hL h).to fun _ _ => rfl
    · cases h
  | .unp is a, st, h => by
    unfold chkS at h
    split at h
    · simp only [Bool.and_eq_true] at h
      (obtain ⟨⟨⟨h1, h2⟩, h3⟩, h4⟩ := h)
      exact (xs_unp (sndN hG hL false a _ h4) (namesB_ok h1) h2 h3).to fun _ _ => rfl
    · cases h
  | .aug i o a, st, h => by
    unfold chkS at h
    split at h
    · (simp only [Bool.and_eq_true, decide_eq_true_eq] at h)
      obtain ⟨⟨⟨rfl, h1⟩, h2⟩, h3⟩ := h
      exact (xs_aug o h1 (storeB_ok h2) (sndN hG hL false a _ h3)).to fun _ _ => rfl
    · cases h
  | .sti o i a, st, h => by
    unfold chkS at h
    split at h
    · simp only [Bool.and_eq_true] at h
      obtain ⟨⟨⟨⟨⟨h1, h2⟩, h3⟩, h4⟩, h5⟩, h6⟩ := h
      exact (xs_sti (sndN hG hL false a _ h6) (sndN hG hL false o _ h4) (sndN hG hL false i _ h5) h1 h2 h3).to fun _ _ => rfl
    · cases h
  | .sfl o f a, st, h => by
    unfold chkS at h
    split at h
    · (simp only [Bool.and_eq_true, decide_eq_true_eq] at h)
      obtain ⟨⟨h1, h2⟩, h3⟩ := h
      obtain ⟨e1, e2⟩ := hG.fld _ _ h1
      subst e1
      exact (xs_sfl hG.inj hG.cls e2 (sndN hG hL false a _ h3) (sndN hG hL false o _ h2)).to fun _ _ => rfl
    · cases h
  | .afl o f q a, st, h => by
    unfold chkS at h
    split at h
    · (simp only [Bool.and_eq_true, decide_eq_true_eq] at h)
      obtain ⟨⟨⟨⟨rfl, h0⟩, h1⟩, h2⟩, h3⟩ := h
      obtain ⟨e1, e2⟩ := hG.fld _ _ h1
      subst e1
      exact (xs_afl q h0 hG.inj hG.cls e2 (sndN hG hL false o _ h2) (sndN hG hL false a _ h3)).to fun _ _ => rfl
    · cases h
  | .ex a, st, h => by
    unfold chkS at h
    split at h
    · simp only [Bool.and_eq_true] at h
      exact (xs_ex (sndN hG hL false a _ h.2) h.1).to fun _ _ => rfl
    · cases h
  | .ret a, st, h => by
    unfold chkS at h
    rw [Bool.or_eq_true] at h
    rcases h with h | h
    · cases a <;> first | (cases h; done) | exact xs_never.to fun _ _ => rfl
    · split at h
      · exact (xs_ret (sndN hG hL false a _ h)).to fun _ _ => rfl
      · cases h
  | .retn, st, h => by
    unfold chkS at h
    split at h
    · exact xs_retn.to fun _ _ => rfl
    · cases h
  | .ife c a b, st, h => by
    unfold chkS at h
    split at h
    · simp only [Bool.and_eq_true] at h
      obtain ⟨⟨h1, h2⟩, h3⟩ := h
      exact (xs_if (sndN hG hL true c _ h1).1 (sndSs hG hL a _ h2) (sndSs hG hL b _ h3)).to fun v S => if_eq (fun v => evE Γ.cf v true c) (evSs Γ.cf a) (evSs Γ.cf b) v S
    · cases h
  | .whl c b, st, h => by
    unfold chkS at h
    split at h
    · simp only [Bool.and_eq_true] at h
      exact (xs_whl (sndN hG hL true c _ h.1).1 (sndSs hG hL b _ h.2)).to fun v S => whl_eq (fun v S => evE Γ.cf v true c S) (fun v S => evSs Γ.cf b v S) FUEL v S
    · cases h
  | .for_ r t b, st, h => by
    unfold chkS at h
    split at h
    · simp only [Bool.and_eq_true] at h
      (obtain ⟨⟨⟨h1, h2⟩, h3⟩, h4⟩ := h)
      exact (xs_for (sndR hG hL r _ _ h1) (tgB_ok h2) (sndSs hG hL b _ h4) h3).to fun _ _ => rfl
    · cases h
  | .rse c es, st, h => by
    unfold chkS at h
    split at h
    · (simp only [Bool.and_eq_true, decide_eq_true_eq] at h)
      obtain ⟨⟨h1, h2⟩, h3⟩ := h
      obtain ⟨f, E⟩ := hG.err _ _ h1
      cases es with
      | nil => unfold chkEs at h3; cases h3
      | cons a r =>
        unfold chkEs at h3
        simp only [Bool.and_eq_true] at h3
        obtain ⟨⟨h6, hs⟩, h7⟩ := h3
        cases r with
        | cons b r => unfold chkEs at h7; cases h7
        | nil =>
          refine (xs_rse E (sndN hG hL false a _ h6) (glB_ok h2).1 (glB_ok h2).2 hs).to fun v S => ?_
          show ((evE Γ.cf v false a S).bind fun x S => (Ro.ok [] S).bind fun xs S => .ok (x :: xs) S).bind (fun xs S => .err c xs S) = _
          cases evE Γ.cf v false a S <;> rfl
    · cases h
  | .pass, st, h => by
    unfold chkS at h
    split at h
    · exact xs_pass.to fun _ _ => rfl
    · cases h
  | .brk, st, h => by
    unfold chkS at h
    split at h
    · exact xs_brk.to fun _ _ => rfl
    · cases h
  | .cnt, st, h => by
    unfold chkS at h
    split at h
    · exact xs_cnt.to fun _ _ => rfl
    · cases h
theorem sndSs {Γ : Ct} (hG : Gd Γ.M Γ.k g) (hL : LmOk Γ) : ∀ (ir : Sms) (l : List Stmt), chkSs g Γ.sx ir l = true → XSs Γ l fun v S => evSs Γ.cf ir v S
  | .nil, l, h => by
    unfold chkSs at h
    split at h
    · exact xss_nil.to fun _ _ => rfl
    · cases h
  | .cons a r, l, h => by
    unfold chkSs at h
    split at h
    · simp only [Bool.and_eq_true] at h
      exact (xss_cons (sndS hG hL a _ h.1) (sndSs hG hL r _ h.2)).to fun v S => seq_eq (evS Γ.cf a v S) (evSs Γ.cf r)
    · cases h
end
end
end Pv
set_option
      maxHeartbeats 2000000
namespace Pv
open PySem L2 PyProof.Rows
section
variable {T : Ks} {E : XK} {w : Wd} {S : Store} {Q : VK}
/-- the end of a body's run -/
def endF (fl : Fl) (S : Store) : Ro D := match fl with
  | .nx _ => .ok .non S
  | .rt d => .ok d S
  | _ => .stuck
theorem run_post {r : Ro Fl} (h : Post T (RV T) E w (r.bind endF) Q) : PostS T E w r { nx := fun _ H' => Q .non H', rt := Q } := by
  cases r with
  | ok f S' =>
    cases f with
    | nx e => exact fun w' σ' x k he => h w' .non x k .non
    | rt d => exact h
    | bk e => exact h.elim
    | ct e => exact h.elim
  | err c as S' => exact h
  | stuck => exact h
theorem start_env {N : List Str} {ds : List D} {vs : List V} {ar sl : Nat} (k : w.ok T S) (rs : RVs T w ds vs) (ha : ds.length = ar) (hN : N.length = sl) : EnvR T w (ds.map some ++ List.replicate (sl - ar) none) (L2.start N vs) := by
  have hl : ds.length = vs.length := rs.length
  unfold L2.start
  refine ⟨by simp [hl]; omega, fun i d h => ?_⟩
  by_cases hi : i < ds.length
  · rw [List.getElem?_append_left (by simpa using hi), List.getElem?_map] at h
    rw [List.getElem?_append_left (by simp; omega), List.getElem?_map]
    obtain ⟨d', e1, e2⟩ := Option.map_eq_some_iff.mp h
    cases e2
    obtain ⟨v, hv, rv⟩ := rs.get e1
    exact ⟨v, by rw [hv]; rfl, rv⟩
  · rw [List.getElem?_append_right (by simp; omega)] at h
    exfalso
    have := List.mem_of_getElem? h
    simp at this
end
section
variable {M : Gm} {k f : Nat} {fn : Fn}
theorem callF_zero {E : XK} {w : Wd} {S : Store} {ds : List D} {Q : VK} (h : Post M.T (RV M.T) E w (callF M.pg 0 f ds S) Q) : False := h
theorem callF_succ {E : XK} {w : Wd} {S : Store} {ds : List D} {Q : VK} (hfn : M.pg.fns[f]? = some fn) (h : Post M.T (RV M.T) E w (callF M.pg (k + 1) f ds S) Q) :
    ((fn.lv || !D.pures ds) = true ∧ Post M.T (RV M.T) E w (runB (M.pg.cf (callF M.pg k)) fn ds S) Q) ∨ ((fn.lv || !D.pures ds) = false ∧ Post M.T (RV M.T) E w (done (runB (M.pg.cf (callF M.pg k)) fn ds []) S) Q) := by
  unfold callF at h
  rw [hfn] at h
  simp only at h
  split at h
  · exact .inl ⟨by assumption, h⟩
  · rename_i c
    exact .inr ⟨by simpa using c, h⟩
theorem runB_len {E : XK} {w : Wd} {S : Store} {ds : List D} {Q : VK} {cf : Cf} (h : Post M.T (RV M.T) E w (runB cf fn ds S) Q) : ds.length = fn.ar ∧ Post M.T (RV M.T) E w ((evSs cf fn.bd (ds.map some ++ List.replicate (fn.sl - fn.ar) none) S).bind endF) Q := by
  unfold runB at h
  split at h
  · exact ⟨by assumption, h⟩
  · exact h.elim
theorem def_step {lm : Option (Addr × Addr × Str)} {name qual : Str} {params : Arguments} {body : List Stmt} {scope : Scope} {dV kV doc pm cdv ct oc : Value} {an od : Option Addr} {osl : Array (Option Value)} {N ps : List Str}
    (lk : M.T.K.lookup (M.fa f) = some ⟨oc, od, .func (PySem.W.fnOf name qual params body scope dV kV doc pm an cdv ct), osl⟩) (hcd : PySem.W.codeIn M.T.K cdv qual = true) (SC : FnScope N ps scope)
    (hfn : M.pg.fns[f]? = some fn) (hN : N.length = fn.sl) (hps : ps.length = fn.ar)
    (hb : ∀ E, XSs ⟨M, k, E, N, scope, true, lm⟩ body fun e S => evSs (M.pg.cf (callF M.pg k)) fn.bd e S)
    (hlm : ∀ c P q, lm = some (c, P, q) → cdv = .ref c ∧ LamX.TabB M.base M.mg c P ∧ ∀ n f cd, (envOfC qual scope n f cd).qual = q) :
    FnOk M.P M.T.W M.T.K M.mg M.base M.cx (4 * (k + 1) + 4) (M.fa f) (PySem.W.fnOf name qual params body scope dV kV doc pm an cdv ct) ps (spOf M (k + 1) f) := by
  have hlen : ∀ {vs H Q E}, spOf M (k + 1) f vs H Q E → vs.length = ps.length := fun {vs H Q E} ⟨w, S, ds, _, kk, rs, h⟩ => by
    rcases callF_succ hfn h with ⟨_, h⟩ | ⟨_, h⟩
    · rw [← rs.length, (runB_len h).1, hps]
    · rw [← rs.length, (runB_len (done_post kk h)).1, hps]
  refine fn_of (k := 4 * k + 7) lk hcd SC (fun _ _ _ _ h => hlen h) fun A outer s H vs Q E hr h => ?_
  obtain ⟨t, pt, st⟩ := hb E
  obtain ⟨w, S, ds, rfl, kk, rs, h⟩ := h
  refine ⟨t, ?_, ?_⟩
  · refine pt ⟨A.deeper (envOfC qual scope s.heap.objs.size (M.fa f) cdv), s, w.H, envOfC qual scope s.heap.objs.size (M.fa f) cdv, outer, envOfC qual scope s.heap.objs.size (M.fa f) cdv :: outer, [], fun _ => true, [], (cxOf M.cx M.P M.T.W M.T.K M.mg M.base N qual scope (M.fa f) cdv A outer s w.H E).xe⟩ ?_
    exact {
      sc := rfl
      nd := SC.nd
      room := hr.mono (by show 4 * k + 5 ≤ 4 * k + 7; omega)
      fn := fun _ => rfl
      lam := fun c P q e => by
        obtain ⟨e1, e2, e3⟩ := hlm c P q e
        exact ⟨hr, by rw [← e1]; rfl, e2, e3 _ _ _⟩
      takes := takes_of (X := cxOf M.cx M.P M.T.W M.T.K M.mg M.base N qual scope (M.fa f) cdv A outer s w.H E) rfl rfl rfl (by rfl)
      own := passes_of (X := cxOf M.cx M.P M.T.W M.T.K M.mg M.base N qual scope (M.fa f) cdv A outer s w.H E) (by rfl) }
  · rcases callF_succ hfn h with ⟨_, h⟩ | ⟨hp, h⟩
    · obtain ⟨hl, h⟩ := runB_len h
      exact st w S _ _ _ kk (start_env kk rs hl hN) (run_post h)
    · have h2 := done_post kk h
      obtain ⟨hl, h3⟩ := runB_len h2
      have hpu : D.pures ds = true := by
        simp only [Bool.or_eq_false_iff, Bool.not_eq_false'] at hp
        exact hp.2
      exact st (Wd.mk w.H w.G []) [] _ _ _ (enter kk) (start_env (enter kk) (Reps.pure_ (Sub.refl _) hpu rs) hl hN) (run_post h3)
/-- no calls left: nothing is promised -/
theorem def_zero {fd : FuncData} {ps : List Str} : FnOk M.P M.T.W M.T.K M.mg M.base M.cx (4 * 0 + 4) (M.fa f) fd ps (spOf M 0 f) :=
  ⟨fun vs H Q E ⟨w, S, ds, _, _, _, h⟩ => (callF_zero h).elim, fun A outer s H args us vs Q E _ _ _ _ ⟨w, S, ds, _, _, _, h⟩ => (callF_zero h).elim⟩
end
end Pv
set_option
      maxHeartbeats 2000000
namespace Pv
open PySem PySem.Spec PyProof.Rows L2 Builtin Builtin.Str
section
variable {a b : List Nat}
theorem replC_none : ∀ (n : Nat) (s : List Nat), (∀ i, (s.drop i).take a.length ≠ a) → replC a b n 1 s = s
  | 0, s, _ => rfl
  | n + 1, [], _ => rfl
  | n + 1, c :: r, h => by
    have h0 : ¬ (c :: r).take a.length = a := h 0
    show (if (c :: r).take a.length = a then _ else _) = _
    rw [if_neg h0, replC_none n r fun i => h (i + 1)]
theorem replC_zero (n : Nat) (s : List Nat) : replC a b n 0 s = s := by cases n <;> rfl
theorem replC_hit (ha : a ≠ []) : ∀ (n : Nat) (s : List Nat) (i : Nat), s.length < n → (s.drop i).take a.length = a → (∀ k, k < i → (s.drop k).take a.length ≠ a) → replC a b n 1 s = s.take i ++ b ++ s.drop (i + a.length)
  | 0, s, i, h, _, _ => absurd h (Nat.not_lt_zero _)
  | n + 1, [], i, _, h, _ => by
    rw [List.drop_nil, List.take_nil] at h
    exact absurd h.symm ha
  | n + 1, c :: r, 0, hn, h, _ => by
    show (if (c :: r).take a.length = a then b ++ replC a b n 0 ((c :: r).drop a.length) else _) = _
    have h' : (c :: r).take a.length = a := h
    rw [if_pos h', replC_zero, Nat.zero_add]
    rfl
  | n + 1, c :: r, i + 1, hn, h, hk => by
    have h0 : ¬ (c :: r).take a.length = a := hk 0 (Nat.succ_pos _)
    show (if (c :: r).take a.length = a then _ else c :: replC a b n 1 r) = _
    rw [if_neg h0, replC_hit ha n r i (Nat.lt_of_succ_lt_succ hn) h fun k hk' => hk (k + 1) (Nat.succ_lt_succ hk')]
    have e : i + 1 + a.length = (i + a.length) + 1 := by omega
    rw [e]
    rfl
end
theorem sub_list (s : List Nat) (i j : Nat) : (strSub (sv s) i j).cps.toList = (s.drop i).take (j - i) := by
  show ((s.toArray).extract i j).toList = _
  rw [Array.toList_extract, List.extract_eq_take_drop]
theorem at_sv {s a : List Nat} (ha : a ≠ []) (i : Nat) : StrLaws.At (sv s) (sv a) (sv s).length i ↔ (s.drop i).take a.length = a := by
  have e1 : subAt (sv s) (sv a) i = true ↔ (s.drop i).take a.length = a := by
    show (((s.toArray).extract i (i + (sv a).length)) == a.toArray) = true ↔ _
    rw [beq_iff_eq, sv_len]
    constructor
    · intro h
      have h2 := congrArg Array.toList h
      rw [Array.toList_extract, List.extract_eq_take_drop] at h2
      rw [show i + a.length - i = a.length from by omega] at h2
      exact h2
    · intro h
      apply Array.ext'
      rw [Array.toList_extract, List.extract_eq_take_drop, show i + a.length - i = a.length from by omega]
      exact h
  constructor
  · exact fun h => e1.mp h.2
  · intro h
    refine ⟨?_, e1.mpr h⟩
    (have hl := congrArg List.length h)
    (rw [List.length_take, List.length_drop] at hl)
    have : 0 < a.length := List.length_pos_iff.mpr ha
    rw [sv_len, sv_len]
    omega
theorem glued_one (s b : List Nat) (i w : Nat) : glued (sv b) (partsBetween (sv s) [i] w) = sv (s.take i ++ b ++ s.drop (i + w)) := by
  show (⟨(strSub (sv s) 0 i).cps ++ (sv b).cps ++ (strSub (sv s) (i + w) (sv s).length).cps⟩ : Str) = ⟨(s.take i ++ b ++ s.drop (i + w)).toArray⟩
  congr 1
  apply Array.ext'
  rw [Array.toList_append, Array.toList_append, sub_list, sub_list]
  (simp only [List.drop_zero, Nat.sub_zero])
  congr 1
  rw [sv_len, List.take_of_length_le]
  rw [List.length_drop]
  omega
/-- what the model's replacing of one place gives -/
def rep1 (x y z : Str) : Str := if ((occurrences x y 0 x.length 1).isEmpty || (y.length == 0 && z.length == 0)) = true then x else glued z (partsBetween x (occurrences x y 0 x.length 1) y.length)
theorem rep1_sv {s a b : List Nat} (ha : a ≠ []) : rep1 (sv s) (sv a) (sv b) = sv (replC a b (s.length + 1) 1 s) := by
  unfold rep1
  have hy : ((sv a).length == 0) = false := by
    rw [sv_len, beq_eq_false_iff_ne]
    exact fun h => ha (List.length_eq_zero_iff.mp h)
  rw [hy, Bool.false_and, Bool.or_false]
  have h1 := StrLaws.occ_length_le (sv s) (sv a) 0 (sv s).length 1
  rcases StrLaws.occ_head (sv s) (sv a) 1 (Nat.le_refl _) with ⟨h, hn⟩ | ⟨i, r, h, hi, hk⟩
  · rw [h]
    rw [replC_none _ _ fun i => fun e => hn i ((at_sv ha i).mpr e)]
    rfl
  · rw [h] at h1 ⊢
    have hr : r = [] := by
      cases r with
      | nil => rfl
      | cons c r => simp at h1
    subst hr
    show glued _ _ = _
    rw [glued_one, sv_len, replC_hit ha (s.length + 1) s i (Nat.lt_succ_self _) ((at_sv ha i).mp hi) fun k hk' => fun e => hk k hk' ((at_sv ha k).mpr e)]
theorem gives_rep1 (x y z : Str) (t u v n : Tok) (h0 : (u == 0 || v == 0) = false) (huv : (u == v) = false) (hyz : (y == z) = false) (hl : tooLong (x.length + (occurrences x y 0 x.length 1).length * z.length) = false) :
    Gives («str.replace» ⟨[.str x t, .str y u, .str z v, .int 1 n], []⟩) (if ((occurrences x y 0 x.length 1).isEmpty || (y.length == 0 && z.length == 0)) = true then .val (.str x t) else .str (glued z (partsBetween x (occurrences x y 0 x.length 1) y.length))) := by
  show Gives (do let limit ← countLimit "str.replace" (some (.int 1 n)) (x.length + 1); _) _
  rw [countLimit_int "str.replace" 1 n (x.length + 1) (by decide)]
  show Gives (if ((occurrences x y 0 x.length 1).isEmpty || (y.length == 0 && z.length == 0)) = true then (do rule "str.replace.nothing"; ret (.str x t)) else
          (do let same ← isSame
                        (.str y u) (.str z v)
              if same = true then
                (do rule "str.replace.old-is-new"; ret (.str x t)) else
              if tooLong (x.length + (occurrences x y 0 x.length 1).length * z.length) = true then unsupported "str.replace:memory" else
              retStr (glued z (partsBetween x (occurrences x y 0 x.length 1) y.length)))) _
  cases hc : ((occurrences x y 0 x.length 1).isEmpty || (y.length == 0 && z.length == 0))
  · (rw [isSame_str_other y z u v h0 huv hyz, hl])
    exact .of_eq rfl
  · exact .rule (.of_eq rfl)
section
variable {prog : Program} {w : World} {A : Around} {E : Value → Shared → Prop} {s : Shared} {x a b : List Nat} {t u v n : Tok} {Q : Value → Shared → Prop}
theorem replC_len (ha : a ≠ []) : (replC a b (x.length + 1) 1 x).length ≤ x.length + b.length := by
  by_cases h : ∃ i, (x.drop i).take a.length = a
  · rcases StrLaws.occ_head (sv x) (sv a) 1 (Nat.le_refl _) with ⟨_, hn⟩ | ⟨i, r, _, hi, hk⟩
    · exact (h.elim fun i e => hn i ((at_sv ha i).mpr e)).elim
    · rw [replC_hit ha _ x i (Nat.lt_succ_self _) ((at_sv ha i).mp hi) fun k hk' => fun e => hk k hk' ((at_sv ha k).mpr e)]
      simp only [List.length_append, List.length_take, List.length_drop]
      omega
  · rw [replC_none _ _ fun i e => h ⟨i, e⟩]
    omega
theorem call_rep1 (ha : a ≠ []) (hu : u ≠ 0) (hv : v ≠ 0) (huv : u ≠ v) (hab : a ≠ b) (hb : x.length + b.length ≤ SZ)
    (hq : ∀ t' k, Q (.str (sv (replC a b (x.length + 1) 1 x)) t') { s with toks := k }) : wpAny (model prog w) A (call (.builtin "str.replace") [.str (sv x) t, .str (sv a) u, .str (sv b) v, .int 1 n]) Q E s := by
  have hyz : (sv a == sv b) = false := beq_eq_false_iff_ne.mpr fun e => hab (sv_inj e)
  have hl : tooLong ((sv x).length + (occurrences (sv x) (sv a) 0 (sv x).length 1).length * (sv b).length) = false := by
    have h1 := StrLaws.occ_length_le (sv x) (sv a) 0 (sv x).length 1
    have h2 : (occurrences (sv x) (sv a) 0 (sv x).length 1).length * (sv b).length ≤ 1 * (sv b).length := Nat.mul_le_mul_right _ h1
    unfold tooLong
    rw [SZ_eq]
    rw [sv_len] at h2 ⊢
    rw [sv_len] at h2 ⊢
    (exact decide_eq_false (by omega))
  refine call_gives F.slot_str_replace (typeIs_str _ _ _) F.entry_str_replace (F.args_str_replace_4 _ _ _ _) (gives_rep1 (sv x) (sv a) (sv b) t u v n (by simp [hu, hv]) (by simp [huv]) hyz hl) ?_
  have hr := rep1_sv (s := x) (a := a) (b := b) ha
  unfold rep1 at hr
  cases hc : ((occurrences (sv x) (sv a) 0 (sv x).length 1).isEmpty || ((sv a).length == 0 && (sv b).length == 0))
  · rw [hc] at hr
    simp only [Bool.false_eq_true, if_false] at hr ⊢
    rw [hr]
    refine ⟨?_, hq _ _⟩
    rw [sv_len, SZ_eq]
    exact Nat.le_trans (replC_len ha) hb
  · rw [hc] at hr
    simp only [if_true] at hr ⊢
    rw [hr]
    exact hq t s.toks
end
end Pv
set_option
      maxHeartbeats 2000000
namespace Pv
open PySem PySem.Spec
      PyProof.Rows L2
section
variable {X : Cx} {o e : Expr} {to te : TE} {apos pos p p' : Pos} {a b : List Nat} {ya yb : Str}
def tRep1 (to : TE) (a b : List Nat) : TE := fun σ H Q => to σ H fun v H1 => ∃ x, v = .str (sv x) ∧ x.length + b.length ≤ SZ ∧ Q (.str (sv (replC a b (x.length + 1) 1 x))) H1
theorem pet_rep1 {j k l : Nat} {c0 c1 c2 : Pos} (ho : PE X o to) (ha : a ≠ []) (hab : a ≠ b) (hbase : attributeBase o "replace" X.env (eval o X.env) = eval o X.env) (hline : (apos.endLine == pos.line) = true) :
    PET X (.Call (.Attribute o "replace" apos) [.Constant (.str (sv a)) j c0, .Constant (.str (sv b)) k c1, .Constant (.int 1) l c2] [] pos) (tRep1 to a b) := by
  intro pins s σ H Q h0 I h
  refine wpAny_Call_method_lateS hbase (by rfl) hline (wpAny_mono (PySem.wpAny_toks (ho.run pins s σ H _ I h)) (fun v s1 q => ?_) fun _ _ z => z.2)
  show MethodOnS _ _ _ _ _ v pos [(false, eval (.Constant (.str (sv a)) j c0) X.env), (false, eval (.Constant (.str (sv b)) k c1) X.env), (false, eval (.Constant (.int 1) l c2) X.env)] _ s1
  (obtain ⟨hk, v', H1, I1, r1, x, e1, hb, q⟩ := q)
  subst e1
  obtain ⟨tx, e2⟩ := r1
  subst e2
  (refine ⟨"str", _, PySem.F.plainAttrs_str, PySem.F.slot_str_replace, PySem.F.type_str_replace, typeIs_str _ _ _, (fun _ e => nomatch e), Calls.callWith_builtin rfl (Calls.evalArgs_plain (Calls.spliced_cons ?_))⟩)
  refine Calls.Constant_str (Calls.spliced_cons (Calls.Constant_str (Calls.spliced_cons (wpAny_Constant_int (Calls.spliced_nil ?_)))))
  refine call_rep1 ha (by show s1.toks ≠ 0; omega) (by show s1.toks + 1 ≠ 0; omega) (by show s1.toks ≠ s1.toks + 1; omega) hab hb fun t' k => ⟨.str (sv (replC a b (x.length + 1) 1 x)), H1, I1.tok k, ⟨t', rfl⟩, q⟩
/-- a call of a def, a token out -/
theorem pet_call {CX : CXT} {k : Nat} {f : Addr} {fd : FuncData} {ps : List Str} {sp : Sp} {E : XK} {x : Str} {es : List Expr} {t : TA} (F : FnOk X.prog X.w X.K X.mg X.base CX k f fd ps sp) (hr : Room k X.A) (hg : Gl X x) (hm : X.mg x = some (.ref f)) (hk : PySem.W.keepIn X.K (.ref f) = true) (hb : L2.Binds X.K fd ps []) (hx : Passes CX X E)
    (ha : PAT X (e :: es) t) (hdb : (x == ("__debug__" : Str)) = false) (he : starEach (e :: es) X.env = (false, eval e X.env) :: starEach es X.env) (hpl : (backTo pos (starEach es X.env)).any (·.1) = false) : PET X (.Call (.Name x p) (e :: es) [] pos) (tCall sp [] E t) := by
  intro pins s σ H Q h0 I h
  (refine wpAny_Call_Name_kw (ld_glob I hg hm ?_ hdb))
  refine PySem.W.callWith_K (h₀ := X.base) I.ok.mod.kin hk (thn (ha pos pins s σ H _ h0 I h) fun us s1 ⟨vs, H1, I1, r, q⟩ => ⟨I1.kIn, ?_⟩) he hpl
  exact run_fn F hr hb .nil hx I1 r q
theorem pst_set {i : Nat} {x : Str} (hN : X.N.Nodup) (hi : X.N[i]? = some x) (hx : Loc X.env.scope x) (he : PET X e te) (hs : swapsWith e (some (.Name x p')) pos.line X.env = pure false) (hf : X.fn x = true ∨ X.env.scope.names.lookup x = some .local) :
    PST X (.Assign [.Name x p'] e pos) (tAsg te (gName i)) := by
  intro pins s σ H D h0 I h
  refine wpAny_Assign_Name (thn (he pins s σ H _ h0 I h) fun v s1 ⟨y, H1, I1, r1, q1⟩ => ?_) hs
  (exact store_ok I1 hN hi hx r1 (fun s2 I2 => ⟨_, H1, I2, q1⟩) hf)
/-- name = e + 'text': a token is out behind it -/
theorem pss_op {i j : Nat} {x c : Str} {r : R2} {op : Operator} {rest : List Stmt} {u : TS} {c0 : Pos} (hN : X.N.Nodup) (hi : X.N[i]? = some x) (hx : Loc X.env.scope x) (ho : OpR X (binaryOp op) r) (he : PE X e te) (h2 : PSsT X rest u) (hf : X.fn x = true ∨ X.env.scope.names.lookup x = some .local) :
    PSs X (.Assign [.Name x p'] (.BinOp e op (.Constant (.str c) j c0) p) pos :: rest) (tSeq (tAsg (tOp r te (tC (.str c))) (gName i)) u) := by
  (refine ⟨fun pins s σ H D I h => ?_⟩)
  refine wpAny_execs_cons (wpAny_Assign_Name (wpAny_BinOp (thn (he.run pins s σ H _ I h) fun v s1 ⟨y, H1, I1, r1, q1⟩ => Calls.Constant_str ?_)) rfl)
  have I1' := I1.tok (s1.toks + 1)
  have q2 := ho pins { s1 with toks := s1.toks + 1 } σ H1 y (.str c) v (.str c s1.toks) _ I1' r1 ⟨s1.toks, rfl⟩ q1
  refine wpAny_mono (PySem.wpAny_toks q2) (fun z s2 q => ?_) fun _ _ z => z.2
  obtain ⟨hk, y2, H2, I2, r2, q3⟩ := q
  have hk1 : s1.toks + 1 ≤ s2.toks := hk
  refine wpAny_mono (PySem.wpAny_toks (store_ok (v := y2) (u := z) (Q := fun _ s3 => Inv X pins (σ.set i (some y2)) H2 s3) I2 hN hi hx r2 (fun _ I3 => I3) hf)) (fun _ s3 q => ?_) fun _ _ z => z.2
  have hk2 : s2.toks ≤ s3.toks := q.1
  exact h2 pins s3 _ H2 D (by omega) q.2 q3
end
def XET (Γ : Ct) (e : Expr) (f : FD) : Prop := ∃ t, (∀ Y, Γ.Ok Y → PET (Γ.cx Y) e t) ∧ Snd Γ.T Γ.E (RV Γ.T) t f
def XAT (Γ : Ct) (es : List Expr) (f : FL) : Prop := ∃ t, (∀ Y, Γ.Ok Y → PAT (Γ.cx Y) es t) ∧ Snd Γ.T Γ.E (RVs Γ.T) t f
def XST (Γ : Ct) (st : Stmt) (f : FS) : Prop := ∃ t, (∀ Y, Γ.OkS Y → PST (Γ.cx Y) st t) ∧ SndS Γ.T Γ.E t f
def XSsT (Γ : Ct) (st : List Stmt) (f : FS) : Prop := ∃ t, (∀ Y, Γ.OkS Y → PSsT (Γ.cx Y) st t) ∧ SndS Γ.T Γ.E t f
section
variable {Γ : Ct} {a b c o : Expr} {fa fb fc fo : FD} {pos p p' apos : Pos} {x m : Str} {es : List Expr} {ga : FL} {f i : Nat} {fd : FuncData} {ps : List Str} {fs gs : FS} {rest : List Stmt} {st : Stmt}
theorem xet_of (h : XE Γ a fa) : XET Γ a fa := let ⟨t, q, s⟩ := h; ⟨t, fun Y ok => CwR.PET.of (q Y ok), s⟩
theorem xsst_of (h : XSs Γ rest gs) : XSsT Γ rest gs := let ⟨t, q, s⟩ := h; ⟨t, fun Y ok => PSsT.of (q Y ok), s⟩
theorem xat_nil : XAT Γ [] fun _ S => .ok [] S := ⟨tNil, fun _ _ => pat_nil, nil_snd⟩
theorem xat_cons (ha : XET Γ a fa) (hr : XAT Γ es ga) (hs : ∀ env, starEach (a :: es) env = (false, eval a env) :: starEach es env) : XAT Γ (a :: es) fun e S => (fa e S).bind fun x S => consL x (ga e S) := by
  obtain ⟨ta, pa, sa⟩ := ha
  obtain ⟨tr, pr, sr⟩ := hr
  refine ⟨_, fun Y ok => pat_cons (pa Y ok) (pr Y ok) (hs _), Snd.seq (tb := fun x σ H1 Q => tr σ H1 fun xs H2 => Q (x :: xs) H2) sa fun w S e σ x v Q k he rx h => ?_⟩
  refine sr w S e σ _ k he (Post.bind k h fun xs S1 w1 vs _ hle k1 rs h1 => ?_)
  exact h1.ok_ k1 (.cons (Rep.le hle rx) rs)
theorem xet_call (F : FnGood Γ.M Γ.k f fd ps) (ha : XAT Γ (a :: es) ga) (hg : Γ.sc.names.lookup x = some .globalImplicit) (hm : Γ.M.mg x = some (.ref (Γ.M.fa f))) (hd : (x == ("__debug__" : Str)) = false)
    (hs : (a :: es).all notStar = true) : XET Γ (.Call (.Name x p) (a :: es) [] pos) fun e S => (ga e S).bind fun xs S => Γ.cf.call f xs S := by
  obtain ⟨ta, pa, sa⟩ := ha
  rw [List.all_cons, Bool.and_eq_true] at hs
  exact ⟨_, fun Y ok => pet_call F.ok ok.room0 (by show Y.env.scope.names.lookup _ = _; rw [ok.sc]; exact hg) hm F.kp F.bd ok.pass (pa Y ok) hd (star_cons hs.1 _) (star_plain _ hs.2), fn_snd sa⟩
theorem xet_nls (ha : XAT Γ es ga) : XET Γ (.List es pos) fun e S => (ga e S).bind fun xs S => nlsD xs S := by
  obtain ⟨ta, pa, sa⟩ := ha
  refine ⟨_, fun Y ok => pet_lst (pa Y ok), Snd.seq (tb := fun xs σ H1 (Q : VK) => xs.length ≤ sizeLine ∧ ∀ p, H1 p = none → Q (.ref p) (upd H1 p (.lst xs))) sa fun w S e σ xs vs Q k he rs h => ?_⟩
  unfold nlsD at h
  split at h
  · exact ⟨by rw [← rs.length, SZ_eq]; assumption, fun p hp => post_nls k rs h p hp⟩
  · exact h.elim
theorem xet_rep1 {u v : List Nat} {j k l : Nat} {c0 c1 c2 : Pos} (ho : XE Γ o fo) (hu : u ≠ []) (huv : u ≠ v) (hb : baseOk o = true) (hl : (apos.endLine == pos.line) = true) (hv : v.length ≤ 1000) :
    XET Γ (.Call (.Attribute o "replace" apos) [.Constant (.str (sv u)) j c0, .Constant (.str (sv v)) k c1, .Constant (.int 1) l c2] [] pos) fun e S => (fo e S).bind fun x S => meGo .replace x S (.ok [.str u, .str v, .int 1] S) := by
  obtain ⟨to, po, so⟩ := ho
  refine ⟨tRep1 to u v, fun Y ok => pet_rep1 (po Y ok) hu huv (base_ok hb _ _) hl, Snd.one (r := fun (z : V) (H : Hp) (Q : VK) => ∃ x, z = V.str (sv x) ∧ x.length + v.length ≤ SZ ∧ Q (V.str (sv (replC u v (x.length + 1) 1 x))) H) so fun w S x z Q kk rx h => ?_⟩
  unfold meGo at h
  split at h
  · have h : Post Γ.T (RV Γ.T) Γ.E w (meR (meD .replace S x [.str u, .str v, .int 1])) Q := h
    unfold meD at h
    simp only at h
    split at h
    · rename_i s _
      split at h
      · rename_i hc
        cases rx
        exact ⟨_, rfl, by omega, post_val kk (.str _) h⟩
      · exact h.elim
    · exact h.elim
  · exact h.elim
theorem xst_set (hs : StoreOk Γ i x) (ha : XET Γ a fa) (hn : noComp a = true) : XST Γ (.Assign [.Name x p] a pos) fun e S => (fa e S).bind fun d S => .ok (.nx (e.set i (some d))) S := by
  obtain ⟨t, q, s⟩ := ha
  exact ⟨tAsg t (gName i), fun Y ok => pst_set ok.nd hs.1 (hs.loc ok.toOk) (q Y ok.toOk) (no_swap hn _ _ _) (hs.fn ok.toOk), SndS.seq (tb := fun v D σ H => D.nx (σ.set i (some v)) H) s fun w S e σ x v D k he r h => h w _ (.refl _) k (he.set i r)⟩
theorem xsst_cons (h1 : XST Γ st fs) (h2 : XSsT Γ rest gs) : XSsT Γ (st :: rest) fun e S => thenS (fs e S) gs := by
  obtain ⟨t, p, s⟩ := h1
  obtain ⟨u, p2, s2⟩ := h2
  exact ⟨tSeq t u, fun Y ok => psst_cons (p Y ok) (p2 Y ok), fun w S e σ D k he h => s w S e σ _ k he (thenS_post k s2 h)⟩
/-- name = a + 'text', then statements that want a token -/
theorem xss_op {o : Op} {v : List Nat} {j : Nat} {c0 : Pos} (hs : StoreOk Γ i x) (ha : XE Γ a fa) (h2 : XSsT Γ rest gs) :
    XSs Γ (.Assign [.Name x p'] (.BinOp a (oBin o) (.Constant (.str (sv v)) j c0) p) pos :: rest) fun e S => thenS (((fa e S).bind fun x S => Ro.opt (opD o S x (.str v)) S).bind fun d S => .ok (.nx (e.set i (some d))) S) gs := by
  obtain ⟨t, q, s⟩ := ha
  obtain ⟨u, p2, s2⟩ := h2
  refine ⟨tSeq (tAsg (tOp (rBin Γ.T.K o) t (tC (.str (sv v)))) (gName i)) u, fun Y ok => pss_op ok.nd hs.1 (hs.loc ok.toOk) (op_bin o) (q Y ok.toOk) (p2 Y ok) (hs.fn ok.toOk), ?_⟩
  have sb : Snd Γ.T Γ.E (RV Γ.T) (tOp (rBin Γ.T.K o) t (tC (.str (sv v)))) fun e S => (fa e S).bind fun x S => Ro.opt (opD o S x (.str v)) S :=
    Snd.one (r := fun y H Q => rBin Γ.T.K o y (.str (sv v)) H Q) s fun w S x y Q k rx h => bin_leaf o k rx (.str v) h
  have sc : SndS Γ.T Γ.E (tAsg (tOp (rBin Γ.T.K o) t (tC (.str (sv v)))) (gName i)) fun e S => ((fa e S).bind fun x S => Ro.opt (opD o S x (.str v)) S).bind fun d S => .ok (.nx (e.set i (some d))) S :=
    SndS.seq (tb := fun v D σ H => D.nx (σ.set i (some v)) H) sb fun w S e σ x v D k he r h => h w _ (.refl _) k (he.set i r)
  exact fun w S e σ D k he h => sc w S e σ _ k he (thenS_post k s2 h)
end
end Pv
set_option
      maxHeartbeats 2000000
namespace Pv
open PySem L2 PyProof.Rows
/-- f(o.replace('u', 'v', 1)) -/
def chkT1 (g : Gs) (s : Sx) : Ex → Expr → Bool
  | .call f (.cons (.me .replace o (.cons (.lit (.str u)) (.cons (.lit (.str v)) (.cons (.lit (.int k)) .nil)))) .nil), .Call (.Name x _) [.Call (.Attribute o' n ap) [.Constant (.str y) _ _, .Constant (.str z) _ _, .Constant (.int k') _ _] [] p] [] _ =>
    decide (k = 1) && decide (k' = 1) && decide (n = ("replace" : Str)) && decide (y = sv u) && decide (z = sv v) && decide (u ≠ []) && decide (u ≠ v) && decide (v.length ≤ 1000) && baseOk o' && (ap.endLine == p.line) && chkE g s false o o' && decide (g.fnN[f]? = some x) && !(x == ("" : Str)) && glB s x
  | _, _ => false
def chkTEs (g : Gs) (s : Sx) : Exs → List Expr → Bool
  | .nil, [] => true
  | .cons a r, e :: es => ((chkE g s false a e && notStar e) || chkT1 g s a e) && chkTEs g s r es
  | _, _ => false
def chkTs (g : Gs) (s : Sx) : Sms → List Stmt → Bool
  | .cons (.set i (.nls es)) r, .Assign [.Name x _] (.List es' _) _ :: rest => storeB s i x && chkTEs g s es es' && chkSs g s r rest
  | _, _ => false
def chkLs (g : Gs) (s : Sx) : Sms → List Stmt → Bool
  | .cons a r, x :: xs => (chkS g s a x && chkLs g s r xs) || (match a, x with
    | .set i (.bin o b (.lit (.str v))), .Assign [.Name n _] (.BinOp e op (.Constant (.str c) _ _) _) _ => decide (op = oBin o) && decide (c = sv v) && storeB s i n && chkE g s false b e && chkTs g s r xs
    | _, _ => false)
  | _, _ => false
section
variable {g : Gs} {Γ : Ct}
theorem XET.to {e : Expr} {f h : FD} (x : XET Γ e f) (q : ∀ v S, h v S = f v S) : XET Γ e h := by
  have : h = f := funext fun v => funext fun S => q v S
  rw [this]
  exact x
theorem XAT.to {e : List Expr} {f h : FL} (x : XAT Γ e f) (q : ∀ v S, h v S = f v S) : XAT Γ e h := by
  have : h = f := funext fun v => funext fun S => q v S
  rw [this]
  exact x
theorem XSsT.to {e : List Stmt} {f h : FS} (x : XSsT Γ e f) (q : ∀ v S, h v S = f v S) : XSsT Γ e h := by
  have : h = f := funext fun v => funext fun S => q v S
  rw [this]
  exact x
theorem chkT1_ok (hG : Gd Γ.M Γ.k g) (hL : LmOk Γ) {a : Ex} {e : Expr} (h : chkT1 g Γ.sx a e = true) : XET Γ e (fun v S => evE Γ.cf v false a S) ∧ notStar e = true := by
  unfold chkT1 at h
  split at h
  · simp only [Bool.and_eq_true, decide_eq_true_eq, Bool.not_eq_true', beq_eq_false_iff_ne] at h
    obtain ⟨⟨⟨⟨⟨⟨⟨⟨⟨⟨⟨⟨⟨rfl, rfl⟩, rfl⟩, rfl⟩, rfl⟩, h1⟩, h2⟩, h3⟩, h4⟩, h5⟩, h6⟩, h7⟩, h8⟩, h9⟩ := h
    obtain ⟨fd, ps, F, e1, _⟩ := hG.fn _ _ h7 h8
    exact ⟨(xet_call F (xat_cons (xet_rep1 (sndN hG hL false _ _ h6) h1 h2 h4 h5 h3) xat_nil (fun _ => rfl)) (glB_ok h9).1 e1 (glB_ok h9).2 rfl).to fun _ _ => rfl, rfl⟩
  · cases h
theorem chkTEs_ok (hG : Gd Γ.M Γ.k g) (hL : LmOk Γ) : ∀ {r : Exs} {es : List Expr}, chkTEs g Γ.sx r es = true → XAT Γ es fun v S => evEs Γ.cf v r S
  | .nil, [], _ => xat_nil.to fun _ _ => rfl
  | .nil, _ :: _, h => by cases h
  | .cons _ _, [], h => by cases h
  | .cons a r, e :: es, h => by
    unfold chkTEs at h
    simp only [Bool.and_eq_true, Bool.or_eq_true] at h
    obtain ⟨h1, h2⟩ := h
    have hd : XET Γ e (fun v S => evE Γ.cf v false a S) ∧ notStar e = true := by
      rcases h1 with ⟨h3, h4⟩ | h3
      · exact ⟨xet_of (sndN hG hL false a e h3), h4⟩
      · exact chkT1_ok hG hL h3
    exact (xat_cons hd.1 (chkTEs_ok hG hL h2) (star_cons hd.2)).to fun _ _ => rfl
theorem chkTs_ok (hG : Gd Γ.M Γ.k g) (hL : LmOk Γ) {ir : Sms} {l : List Stmt} (h : chkTs g Γ.sx ir l = true) : XSsT Γ l fun v S => evSs Γ.cf ir v S := by
  unfold chkTs at h
  split at h
  · rename_i i es r x p es' lp pos rest
    (simp only [Bool.and_eq_true] at h)
    obtain ⟨⟨h1, h2⟩, h3⟩ := h
    refine (xsst_cons (xst_set (storeB_ok h1) (xet_nls (chkTEs_ok hG hL h2)) rfl) (xsst_of (sndSs hG hL r rest h3))).to fun v S => ?_
    exact seq_eq (evS Γ.cf (.set i (.nls es)) v S) (evSs Γ.cf r)
  · cases h
theorem chkLs_ok (hG : Gd Γ.M Γ.k g) (hL : LmOk Γ) : ∀ {ir : Sms} {l : List Stmt}, chkLs g Γ.sx ir l = true → XSs Γ l fun v S => evSs Γ.cf ir v S
  | .nil, [], h => by cases h
  | .nil, _ :: _, h => by cases h
  | .cons _ _, [], h => by cases h
  | .cons a r, x :: xs, h => by
    unfold chkLs at h
    rw [Bool.or_eq_true] at h
    rcases h with h | h
    · rw [Bool.and_eq_true] at h
      exact (xss_cons (sndS hG hL a _ h.1) (chkLs_ok hG hL h.2)).to fun v S => seq_eq (evS Γ.cf a v S) (evSs Γ.cf r)
    · split at h
      · (simp only [Bool.and_eq_true, decide_eq_true_eq] at h)
        obtain ⟨⟨⟨⟨rfl, rfl⟩, h1⟩, h2⟩, h3⟩ := h
        exact (xss_op (storeB_ok h1) (sndN hG hL false _ _ h2) (chkTs_ok hG hL h3)).to fun v S => seq_eq (evS Γ.cf _ v S) (evSs Γ.cf r)
      · cases h
end
end Pv
namespace K85
open PySem L2 Pv
def top (i : Nat) : Stmt := PySem.Challenge.pw_tellback_k85_texts_of_deeds.main.body.getD i (.Pass ⟨0, 0, 0, 0⟩)
def inCls (s : Stmt) (j : Nat) : Stmt := match s with
  | .ClassDef _ _ _ b .. => b.getD j (.Pass ⟨0, 0, 0, 0⟩)
  | _ => .Pass ⟨0, 0, 0, 0⟩
abbrev s_is_text : Stmt := top 9
def n_is_text : List Str := [("thing" : Str), ("alphabet" : Str), ("most" : Str), ("sign" : Str)]
def p_is_text : List Str := [("thing" : Str), ("alphabet" : Str), ("most" : Str)]
abbrev s_is_name : Stmt := top 10
def n_is_name : List Str := [("thing" : Str), ("sign" : Str)]
def p_is_name : List Str := [("thing" : Str)]
abbrev s_is_deed : Stmt := top 13
def n_is_deed : List Str := [("thing" : Str)]
def p_is_deed : List Str := [("thing" : Str)]
abbrev s_is_lines : Stmt := top 19
def n_is_lines : List Str := [("thing" : Str)]
def p_is_lines : List Str := [("thing" : Str)]
abbrev s_is_flat : Stmt := top 20
def n_is_flat : List Str := [("thing" : Str), ("deep" : Str), ("one" : Str)]
def p_is_flat : List Str := [("thing" : Str), ("deep" : Str)]
abbrev s_flat_word : Stmt := top 21
def n_flat_word : List Str := [("thing" : Str), ("ends" : Str), ("one" : Str)]
def p_flat_word : List Str := [("thing" : Str)]
abbrev s_number_at : Stmt := top 22
def n_number_at : List Str := [("word" : Str), ("at" : Str), ("start" : Str), ("stop" : Str), ("figures" : Str)]
def p_number_at : List Str := [("word" : Str), ("at" : Str)]
abbrev s_row_at : Stmt := top 23
def n_row_at : List Str := [("word" : Str), ("at" : Str), ("deep" : Str), ("close" : Str), ("found" : Str), ("place" : Str), ("one" : Str)]
def p_row_at : List Str := [("word" : Str), ("at" : Str), ("deep" : Str)]
abbrev s_thing_at : Stmt := top 24
def n_thing_at : List Str := [("word" : Str), ("at" : Str), ("deep" : Str), ("sign" : Str), ("stop" : Str), ("good" : Str)]
def p_thing_at : List Str := [("word" : Str), ("at" : Str), ("deep" : Str)]
abbrev s_plain_deed : Stmt := top 25
def n_plain_deed : List Str := [("thing" : Str)]
def p_plain_deed : List Str := [("thing" : Str)]
abbrev s_deed_lines : Stmt := top 26
def n_deed_lines : List Str := [("deed" : Str), ("lines" : Str), ("line" : Str)]
def p_deed_lines : List Str := [("deed" : Str)]
abbrev s_deeds_text : Stmt := top 27
def n_deeds_text : List Str := [("deeds" : Str), ("lines" : Str), ("index" : Str), ("thing" : Str), ("deed" : Str), ("line" : Str)]
def p_deeds_text : List Str := [("deeds" : Str)]
abbrev s_figure_of : Stmt := top 28
def n_figure_of : List Str := [("word" : Str), ("sign" : Str)]
def p_figure_of : List Str := [("word" : Str)]
abbrev s_DeedReading___init__ : Stmt := inCls (top 29) 0
def n_DeedReading___init__ : List Str := [("self" : Str)]
def p_DeedReading___init__ : List Str := [("self" : Str)]
abbrev s_DeedReading_close : Stmt := inCls (top 29) 1
def n_DeedReading_close : List Str := [("self" : Str), ("line" : Str)]
def p_DeedReading_close : List Str := [("self" : Str)]
abbrev s_DeedReading_take_line : Stmt := inCls (top 29) 2
def n_DeedReading_take_line : List Str := [("self" : Str), ("line" : Str), ("one" : Str)]
def p_DeedReading_take_line : List Str := [("self" : Str), ("line" : Str)]
abbrev s_DeedReading_take_put : Stmt := inCls (top 29) 3
def n_DeedReading_take_put : List Str := [("self" : Str), ("line" : Str), ("words" : Str), ("flat" : Str), ("found" : Str)]
def p_DeedReading_take_put : List Str := [("self" : Str), ("line" : Str)]
abbrev s_DeedReading_take : Stmt := inCls (top 29) 4
def n_DeedReading_take : List Str := [("self" : Str), ("line" : Str), ("words" : Str), ("many" : Str)]
def p_DeedReading_take : List Str := [("self" : Str), ("line" : Str)]
abbrev s_lines_read : Stmt := top 30
def n_lines_read : List Str := [("text" : Str), ("reading" : Str), ("lines" : Str), ("number" : Str), ("line" : Str)]
def p_lines_read : List Str := [("text" : Str)]
abbrev s_deeds_fault : Stmt := top 31
def n_deeds_fault : List Str := [("text" : Str)]
def p_deeds_fault : List Str := [("text" : Str)]
abbrev s_read_deeds : Stmt := top 32
def n_read_deeds : List Str := [("text" : Str), ("found" : Str), ("number" : Str)]
def p_read_deeds : List Str := [("text" : Str)]
abbrev s__law_mbent : Stmt := top 34
def n__law_mbent : List Str := [("stream" : Str), ("lines" : Str), ("more" : Str), ("words" : Str), ("place" : Str), ("bent" : Str), ("at" : Str), ("kind" : Str), ("line" : Str)]
def p__law_mbent : List Str := [("stream" : Str), ("lines" : Str), ("more" : Str)]
abbrev s__law_mtext : Stmt := top 35
def n__law_mtext : List Str := [("lines" : Str), ("line" : Str)]
def p__law_mtext : List Str := [("lines" : Str)]
abbrev s__law_start : Stmt := top 36
def n__law_start : List Str := [("script" : Str)]
def p__law_start : List Str := [("script" : Str)]
abbrev s__law_below : Stmt := top 37
def n__law_below : List Str := [("stream" : Str), ("many" : Str), ("mixed" : Str), ("cell" : Str), ("digit" : Str)]
def p__law_below : List Str := [("stream" : Str), ("many" : Str)]
abbrev s__law_pick : Stmt := top 38
def n__law_pick : List Str := [("stream" : Str), ("some" : Str)]
def p__law_pick : List Str := [("stream" : Str), ("some" : Str)]
abbrev s__law_copied : Stmt := top 39
def n__law_copied : List Str := [("thing" : Str), ("found" : Str), ("part" : Str), ("key" : Str)]
def p__law_copied : List Str := [("thing" : Str)]
abbrev s__law_same : Stmt := top 40
def n__law_same : List Str := [("found" : Str), ("due" : Str), ("x" : Str), ("y" : Str)]
def p__law_same : List Str := [("found" : Str), ("due" : Str)]
abbrev s__law_mthing : Stmt := top 41
def n__law_mthing : List Str := [("stream" : Str), ("deep" : Str), ("way" : Str), ("some" : Str), ("turn" : Str)]
def p__law_mthing : List Str := [("stream" : Str), ("deep" : Str)]
abbrev s__law_mflat : Stmt := top 42
def n__law_mflat : List Str := [("thing" : Str), ("parts" : Str), ("one" : Str)]
def p__law_mflat : List Str := [("thing" : Str)]
abbrev s__law_mflat_read : Stmt := top 43
def n__law_mflat_read : List Str := [("word" : Str), ("at" : Str), ("deep" : Str), ("sign" : Str), ("start" : Str), ("stop" : Str), ("figures" : Str), ("found" : Str), ("place" : Str), ("one" : Str)]
def p__law_mflat_read : List Str := [("word" : Str), ("at" : Str), ("deep" : Str)]
abbrev s__law_mname : Stmt := top 44
def n__law_mname : List Str := [("word" : Str), ("keys" : Str), ("sign" : Str)]
def p__law_mname : List Str := [("word" : Str)]
abbrev s__law_mcount_in : Stmt := top 45
def n__law_mcount_in : List Str := [("word" : Str), ("sign" : Str)]
def p__law_mcount_in : List Str := [("word" : Str)]
abbrev s__law_mread_lines : Stmt := top 46
def n__law_mread_lines : List Str := [("lines" : Str), ("found" : Str), ("left" : Str), ("text" : Str), ("at" : Str), ("line" : Str), ("words" : Str), ("flat" : Str), ("one" : Str)]
def p__law_mread_lines : List Str := [("lines" : Str)]
abbrev s__law_mform : Stmt := top 47
def n__law_mform : List Str := [("stream" : Str), ("lines" : Str), ("name" : Str), ("way" : Str), ("thing" : Str), ("turn" : Str), ("at" : Str), ("line" : Str)]
def p__law_mform : List Str := [("stream" : Str)]
abbrev s__law_mword : Stmt := top 48
def n__law_mword : List Str := [("call" : Str), ("e" : Str)]
def p__law_mword : List Str := [("call" : Str)]
abbrev s_law : Stmt := top 49
def n_law : List Str := [("script" : Str), ("stream" : Str), ("turn" : Str), ("full" : Str), ("found" : Str), ("forms" : Str), ("told" : Str), ("again" : Str), ("at" : Str), ("deep" : Str), ("some" : Str), ("odd" : Str), ("deeds" : Str), ("lines" : Str), ("text" : Str), ("was" : Str), ("bent" : Str), ("rows" : Str), ("due" : Str), ("line" : Str), ("form" : Str), ("deed" : Str)]
def p_law : List Str := [("script" : Str)]
def gs : Gs where
  fnN := [("is_text" : Str), ("is_name" : Str), ("is_deed" : Str), ("is_lines" : Str), ("is_flat" : Str), ("flat_word" : Str), ("number_at" : Str), ("row_at" : Str), ("thing_at" : Str), ("plain_deed" : Str), ("deed_lines" : Str), ("deeds_text" : Str), ("figure_of" : Str), ("" : Str), ("" : Str), ("" : Str), ("" : Str), ("" : Str), ("lines_read" : Str), ("deeds_fault" : Str), ("read_deeds" : Str), ("_law_mbent" : Str), ("_law_mtext" : Str), ("_law_start" : Str), ("_law_below" : Str), ("_law_pick" : Str), ("_law_copied" : Str), ("_law_same" : Str), ("_law_mthing" : Str), ("_law_mflat" : Str), ("_law_mflat_read" : Str), ("_law_mname" : Str), ("_law_mcount_in" : Str), ("_law_mread_lines" : Str), ("_law_mform" : Str), ("" : Str), ("" : Str)]
  glN := [("LETTERS" : Str), ("FIGURES" : Str), ("SIGNS" : Str), ("KEYS" : Str), ("SIZES" : Str), ("LONG" : Str), ("MARK" : Str), ("DEEP" : Str), ("PLACES" : Str)]
  clN := [("DeedReading" : Str)]
  erN := [("BadDeed" : Str), ("BadLine" : Str)]
  fdN := [("deeds" : Str), ("left" : Str), ("lines" : Str)]
  kwN := [(1, ("thing" : Str)), (2, ("thing" : Str)), (3, ("thing" : Str)), (5, ("thing" : Str)), (9, ("thing" : Str)), (10, ("deed" : Str)), (11, ("deeds" : Str)), (12, ("word" : Str)), (18, ("text" : Str)), (19, ("text" : Str)), (20, ("text" : Str)), (22, ("lines" : Str)), (23, ("script" : Str)), (26, ("thing" : Str)), (29, ("thing" : Str)), (31, ("word" : Str)), (32, ("word" : Str)), (33, ("lines" : Str)), (34, ("stream" : Str))]
  ini := [13]
  mt := [(0, 13, ("__init__" : Str)), (0, 14, ("close" : Str)), (0, 15, ("take_line" : Str)), (0, 16, ("take_put" : Str)), (0, 17, ("take" : Str))]
  mw := "_law_mword"
  mwW := [116, 111, 108, 100]
  mwH := [(1, [108, 105, 110, 101]), (0, [100, 101, 101, 100])]
def sx (n : List Str) (s : Stmt) (lm : Bool) : Sx := ⟨n, defScope s, true, lm⟩
def allB : List (String × Bool) := [
  ("is_text", chkSs gs (sx n_is_text s_is_text false) b_is_text (defBody s_is_text)),
  ("is_name", chkSs gs (sx n_is_name s_is_name false) b_is_name (defBody s_is_name)),
  ("is_deed", chkSs gs (sx n_is_deed s_is_deed false) b_is_deed (defBody s_is_deed)),
  ("is_lines", chkSs gs (sx n_is_lines s_is_lines false) b_is_lines (defBody s_is_lines)),
  ("is_flat", chkSs gs (sx n_is_flat s_is_flat false) b_is_flat (defBody s_is_flat)),
  ("flat_word", chkSs gs (sx n_flat_word s_flat_word false) b_flat_word (defBody s_flat_word)),
  ("number_at", chkSs gs (sx n_number_at s_number_at false) b_number_at (defBody s_number_at)),
  ("row_at", chkSs gs (sx n_row_at s_row_at false) b_row_at (defBody s_row_at)),
  ("thing_at", chkSs gs (sx n_thing_at s_thing_at false) b_thing_at (defBody s_thing_at)),
  ("plain_deed", chkSs gs (sx n_plain_deed s_plain_deed false) b_plain_deed (defBody s_plain_deed)),
  ("deed_lines", chkSs gs (sx n_deed_lines s_deed_lines false) b_deed_lines (defBody s_deed_lines)),
  ("deeds_text", chkSs gs (sx n_deeds_text s_deeds_text false) b_deeds_text (defBody s_deeds_text)),
  ("figure_of", chkSs gs (sx n_figure_of s_figure_of false) b_figure_of (defBody s_figure_of)),
  ("DeedReading___init__", chkSs gs (sx n_DeedReading___init__ s_DeedReading___init__ false) b_DeedReading___init__ (defBody s_DeedReading___init__)),
  ("DeedReading_close", chkSs gs (sx n_DeedReading_close s_DeedReading_close false) b_DeedReading_close (defBody s_DeedReading_close)),
  ("DeedReading_take_line", chkSs gs (sx n_DeedReading_take_line s_DeedReading_take_line false) b_DeedReading_take_line (defBody s_DeedReading_take_line)),
  ("DeedReading_take_put", chkSs gs (sx n_DeedReading_take_put s_DeedReading_take_put false) b_DeedReading_take_put (defBody s_DeedReading_take_put)),
  ("DeedReading_take", chkSs gs (sx n_DeedReading_take s_DeedReading_take false) b_DeedReading_take (defBody s_DeedReading_take)),
  ("lines_read", chkSs gs (sx n_lines_read s_lines_read false) b_lines_read (defBody s_lines_read)),
  ("deeds_fault", chkSs gs (sx n_deeds_fault s_deeds_fault false) b_deeds_fault (defBody s_deeds_fault)),
  ("read_deeds", chkSs gs (sx n_read_deeds s_read_deeds false) b_read_deeds (defBody s_read_deeds)),
  ("_law_mbent", chkSs gs (sx n__law_mbent s__law_mbent false) b__law_mbent (defBody s__law_mbent)),
  ("_law_mtext", chkSs gs (sx n__law_mtext s__law_mtext false) b__law_mtext (defBody s__law_mtext)),
  ("_law_start", chkSs gs (sx n__law_start s__law_start false) b__law_start (defBody s__law_start)),
  ("_law_below", chkSs gs (sx n__law_below s__law_below false) b__law_below (defBody s__law_below)),
  ("_law_pick", chkSs gs (sx n__law_pick s__law_pick false) b__law_pick (defBody s__law_pick)),
  ("_law_copied", chkSs gs (sx n__law_copied s__law_copied false) b__law_copied (defBody s__law_copied)),
  ("_law_same", chkSs gs (sx n__law_same s__law_same false) b__law_same (defBody s__law_same)),
  ("_law_mthing", chkSs gs (sx n__law_mthing s__law_mthing false) b__law_mthing (defBody s__law_mthing)),
  ("_law_mflat", chkSs gs (sx n__law_mflat s__law_mflat false) b__law_mflat (defBody s__law_mflat)),
  ("_law_mflat_read", chkSs gs (sx n__law_mflat_read s__law_mflat_read false) b__law_mflat_read (defBody s__law_mflat_read)),
  ("_law_mname", chkSs gs (sx n__law_mname s__law_mname false) b__law_mname (defBody s__law_mname)),
  ("_law_mcount_in", chkSs gs (sx n__law_mcount_in s__law_mcount_in false) b__law_mcount_in (defBody s__law_mcount_in)),
  ("_law_mread_lines", chkSs gs (sx n__law_mread_lines s__law_mread_lines false) b__law_mread_lines (defBody s__law_mread_lines)),
  ("_law_mform", chkSs gs (sx n__law_mform s__law_mform false) b__law_mform (defBody s__law_mform)),
  ("law", chkSs gs (sx n_law s_law true) b_law (defBody s_law))]
end K85
set_option
      maxHeartbeats 2000000
namespace Pv
open PySem L2 PyProof.Rows
def oexB (K : PySem.W.Frag) (C : Addr) : Bool := (match K.lookup C with
  | some ⟨.type t, _, .cls cd, sl⟩ => decide (t = "type") && (match cd.mro, sl.toList with
    | .ref c :: bm, [_, _, _, _, some (.builtin n), _] => decide (c = C) && decide (n = "ValueError.__new__") && !cd.hasDel && cd.hasDict && PySem.HandSPX.refsVE bm
    | _, _ => false)
  | _ => false) && decide (PySem.W.findIn K (.ref C) "__setattr__" = some (some (.builtin "object.__setattr__"))) && decide (PySem.W.subIn K (.ref C) (.type "BaseException") = some true) && decide (PySem.W.typeIn K (.ref C) = some (.type "type")) && PySem.W.keepIn K (.ref C)
theorem oexB_ok {K : PySem.W.Frag} {C : Addr} (h : oexB K C = true) : OexC K C := by
  unfold oexB at h
  rw [Bool.and_eq_true, Bool.and_eq_true, Bool.and_eq_true, Bool.and_eq_true, decide_eq_true_eq, decide_eq_true_eq, decide_eq_true_eq] at h
  obtain ⟨⟨⟨⟨h1, h2⟩, h3⟩, h4⟩, h5⟩ := h
  refine ⟨?_, h2, h3, h4, h5⟩
  split at h1
  · rename_i t dd cd sl ho
    rw [Bool.and_eq_true, decide_eq_true_eq] at h1
    obtain ⟨h0, h1⟩ := h1
    subst h0
    split at h1
    · rename_i c bm k0 k1 k2 k3 n k5 hm hs
      simp only [Bool.and_eq_true, decide_eq_true_eq, Bool.not_eq_true'] at h1
      obtain ⟨⟨⟨⟨rfl, rfl⟩, hdel⟩, hd⟩, ht⟩ := h1
      obtain ⟨nm, bs, mro, ns, qn, hdd, sn, sub, ab, col, del⟩ := cd
      simp only at hm hdel hd
      subst hm hdel hd
      obtain ⟨l⟩ := sl
      simp only at hs
      subst hs
      exact ⟨nm, qn, ns, bs, bm, sn, sub, ab, col, dd, k0, k1, k2, k3, k5, ho, ht⟩
    · cases h1
  · cases h1
def flatB : D → Value → Bool
  | .int i, .int j _ => (decide (i = j))
  | .str s, .str x _ => decide (x.cps.toList = s)
  | .bl a, .bool b => decide (a = b)
  | .non, .none => true
  | _, _ => false
def flatsB : List D → List Value → Bool
  | [], [] => true
  | d :: ds, u :: us => flatB d u && flatsB ds us
  | _, _ => false
def toV : D → V
  | .int i => .int i
  | .str s => .str (sv s)
  | .bl b => .bl b
  | _ => .non
theorem flatB_ok {d : D} {u : Value} (h : flatB d u = true) : RelV (toV d) u ∧ ∀ {K : PySem.W.Frag} {W : World} {G : Hp} {φ : List Addr}, Rep K W G φ d (toV d) := by
  unfold flatB at h
  split at h
  · have := of_decide_eq_true h; subst this; exact ⟨⟨_, rfl⟩, .int _⟩
  · rename_i s x t
    have := of_decide_eq_true h
    subst this
    refine ⟨⟨t, ?_⟩, .str _⟩
    show Value.str x t = Value.str (sv x.cps.toList) t
    rw [sv_of]
  · have := of_decide_eq_true h; subst this; exact ⟨rfl, .bl _⟩
  · exact ⟨rfl, .non⟩
  · cases h
theorem flatsB_ok : ∀ {ds : List D} {us : List Value}, flatsB ds us = true → Vals (ds.map toV) us ∧ ∀ {K : PySem.W.Frag} {W : World} {G : Hp} {φ : List Addr}, Reps K W G φ ds (ds.map toV)
  | [], [], _ => ⟨.nil, .nil⟩
  | [], _ :: _, h => by unfold flatsB at h; cases h
  | _ :: _, [], h => by unfold flatsB at h; cases h
  | d :: ds, u :: us, h => by
    unfold flatsB at h
    rw [Bool.and_eq_true] at h
    obtain ⟨h1, h2⟩ := flatB_ok h.1
    obtain ⟨h3, h4⟩ := flatsB_ok h.2
    exact ⟨.cons h1 h3, .cons h2 h4⟩
/-- the entries of a dict with text keys and int values -/
def entB : List (List Nat × Int) → List DictEntry → Bool
  | [], [] => true
  | (k, i) :: r, e :: es => (match e.key, e.val with
    | .str x _, .int j _ => decide (x.cps.toList = k) && decide (j = i)
    | _, _ => false) && entB r es
  | _, _ => false
theorem entB_ok : ∀ {kvs : List (List Nat × Int)} {es : List DictEntry}, entB kvs es = true → ∀ k, (∃ r, (match es.find? (·.key.isStr (sv k)) with
      | some e => some (some e.val)
      | none => if es.any (·.refKey) then none else some none) = some r ∧ RelO ((kvs.lookup k).map V.int) r)
  | [], [], _, k => ⟨none, rfl, trivial⟩
  | [], _ :: _, h, _ => by unfold entB at h; cases h
  | _ :: _, [], h, _ => by unfold entB at h; cases h
  | (k0, i) :: r, e :: es, h, k => by
    unfold entB at h
    rw [Bool.and_eq_true] at h
    obtain ⟨h1, h2⟩ := h
    obtain ⟨q, e1, e2⟩ := entB_ok h2 k
    split at h1
    · rename_i x t j t2 hk hv
      (simp only [Bool.and_eq_true, decide_eq_true_eq] at h1)
      obtain ⟨rfl, rfl⟩ := h1
      have hr : e.refKey = false := by
        unfold DictEntry.refKey
        rw [hk]
      by_cases c : x = sv k
      · have hs : e.key.isStr (sv k) = true := by rw [hk]; show (x == sv k) = true; rw [c]; simp
        refine ⟨some e.val, by rw [List.find?_cons, hs], ?_⟩
        rw [hv]
        have : k = x.cps.toList := by rw [c]; rfl
        rw [List.lookup_cons, this]
        simp only [BEq.rfl]
        exact ⟨t2, rfl⟩
      · have hs : e.key.isStr (sv k) = false := by rw [hk]; show (x == sv k) = false; exact beq_eq_false_iff_ne.mpr c
        have hn : (k == x.cps.toList) = false := beq_eq_false_iff_ne.mpr fun z => c (by rw [z]; rfl)
        refine ⟨q, ?_, ?_⟩
        · rw [List.find?_cons, hs, List.any_cons, hr, Bool.false_or]
          exact e1
        · rw [List.lookup_cons, hn]
          exact e2
    · cases h1
/-- the module's name x holds d -/
def gvB (K : PySem.W.Frag) (x : Str) (d : D) : Bool := match PySem.W.nsIn K mainGlobals x with
  | some (some u) => (match d with
    | .tup ds => (match u with
      | .ref a => (match
            K.lookup a with
        | some ⟨.type c, _, .seq its _, _⟩ => decide (c = "tuple") && decide (its.size ≤ SZ) && flatsB ds its.toList
        | _ => false)
      | _ => false)
    | .sdc kvs => (match u with
      | .ref a => (match
            K.lookup a with
        | some ⟨_, _, .dict es _, _⟩ => decide (a = He.ga K x) && entB kvs es.toList
        | _ => false)
      | _ => false)
    | d => flatB d u)
  | _ => false
theorem gvB_ok {K : PySem.W.Frag} {W : World} {h : Heap} {mg : Str → Option Value} {x : Str} {d : D} (X : K.In h) (G : h.Ns mainGlobals mg) (q : gvB K x d = true) (hd : ∀ kvs, d = .sdc kvs → ∃ es n, KDict K W (He.ga K x) es n) :
    ∃ v u, mg x = some u ∧ RelV v u ∧ ∀ {G : Hp} {φ : List Addr}, Rep K W G φ d v := by
  unfold gvB at q
  split at q
  · rename_i u hu
    have hm := PySem.W.mg_of X G hu
    split at q
    · split at q
      · split at q
        · rename_i ds a o c dd its n sl ho
          (simp only [Bool.and_eq_true, decide_eq_true_eq] at q)
          obtain ⟨⟨rfl, h2⟩, h3⟩ := q
          obtain ⟨h4, h5⟩ := flatsB_ok h3
          exact ⟨.ref a, _, hm, rfl, .tup (.inr ⟨_, its, n, ho, rfl, rfl, by rw [SZ_eq]; exact h2, h4⟩) h5⟩
        · cases q
      · cases q
    · split at q
      · split at q
        · rename_i kvs _ a o c dd es n sl ho
          (simp only [Bool.and_eq_true, decide_eq_true_eq] at q)
          obtain ⟨h1, h2⟩ := q
          obtain ⟨es', n', kd⟩ := hd kvs rfl
          rw [← h1] at kd
          refine ⟨.ref a, _, hm, rfl, .sdc kd fun k => ?_⟩
          obtain ⟨r, e1, e2⟩ := entB_ok h2 k
          refine ⟨r, ?_, e2⟩
          unfold PySem.W.nsIn
          rw [ho]
          exact e1
        · cases q
      · cases q
    · obtain ⟨h1, h2⟩ := flatB_ok q
      exact ⟨toV d, u, hm, h1, h2⟩
  · cases q
end Pv
set_option
      maxHeartbeats 2000000
namespace Pv
open PySem L2 PyProof.Rows
section
variable {M : Gm} {k f : Nat} {g : Gs} {name qual : Str} {params : Arguments} {body : List Stmt} {scope : Scope} {fd : FuncData} {fn : Fn} {N ps : List Str}
/-- what binds the parameters: no default anywhere -/
def Bd (name qual : Str) (params : Arguments) (body : List Stmt) (scope : Scope) (ps : List Str) : Prop :=
  ∀ (kV doc pm : Value) (an : Option Addr) (cdv ct : Value) (us : List Value), us.length = ps.length → bindArgs (PySem.W.fnOf name qual params body scope .none kV doc pm an cdv ct) ⟨us, []⟩ = pure (ps.zip us)
theorem good_step (F : FunD M.T.K name qual params body scope [] [] (M.fa f) fd) (hb : Bd name qual params body scope ps) (SC : FnScope N ps scope) (hfn : M.pg.fns[f]? = some fn) (hN : N.length = fn.sl) (hps : ps.length = fn.ar)
    (hc : chkSs g ⟨N, scope, true, false⟩ fn.bd body = true) (hG : Gd M k g) : FnGood M (k + 1) f fd ps := by
  (obtain ⟨oc, od, dV, kV, doc, pm, an, cdv, ct, osl, rfl, lk, hcd, _, _⟩ := F.ex)
  exact ⟨def_step (lm := none) lk hcd SC hfn hN hps (fun E => sndSs (Γ := ⟨M, k, E, N, scope, true, none⟩) hG (fun _ _ _ h => by cases h) _ _ hc) (fun _ _ _ h => by cases h), F.kp, F.bindsN hb⟩
theorem good_zero (F : FunD M.T.K name qual params body scope [] [] (M.fa f) fd) (hb : Bd name qual params body scope ps) : FnGood M 0 f fd ps := ⟨def_zero, F.kp, F.bindsN hb⟩
theorem good_all (F : FunD M.T.K name qual params body scope [] [] (M.fa f) fd) (hb : Bd name qual params body scope ps) (SC : FnScope N ps scope) (hfn : M.pg.fns[f]? = some fn) (hN : N.length = fn.sl) (hps : ps.length = fn.ar)
    (hc : chkSs g ⟨N, scope, true, false⟩ fn.bd body = true) (hG : ∀ j, k = j + 1 → Gd M j g) : FnGood M k f fd ps := by
  cases k with
  | zero => exact good_zero F hb
  | succ j => exact good_step F hb SC hfn hN hps hc (hG j rfl)
/-- the one parameter by its name -/
theorem kb_of {K : PySem.W.Frag} {a : Addr} {n : Str} (F : FunD K name qual params body scope [] [] a fd) (h : ∀ (kV doc pm : Value) (an : Option Addr) (cdv ct w : Value), bindArgs (PySem.W.fnOf name qual params body scope .none kV doc pm an cdv ct) ⟨[], [(n, w)]⟩ = pure [(n, w)]) :
    KBn K fd [n] 0 [n] (fun _ ws => ws) (fun _ zs => zs) := by
  (obtain ⟨oc, od, dV, kV, doc, pm, an, cdv, ct, osl, rfl, lk, hcd, hD, hK⟩ := F.ex)
  (rcases hD with ⟨_, rfl⟩ | ⟨e, _⟩)
  · refine ⟨fun s us ws X l1 l2 => ?_, fun _ r => r⟩
    match us, l1, ws, l2 with
    | [], _, [w], _ => exact BindsTo.of_looks fun Mo => PySem.W.Looks.of_pure (h kV doc pm an cdv ct w)
  · exact absurd rfl e
/-- an error's __init__(self, f): self.f = f -/
theorem err_of {c : Nat} {x fl : Str} {iname iqual : Str} {pr : Arguments} {bd : List Stmt} {sc : Scope} {j1 j2 j3 j4 : Pos} (ho : OexC M.T.K (M.T.ecl c)) (hf : M.T.efl c = [fl]) (hi : PySem.W.findIn M.T.K (.ref (M.T.ecl c)) "__init__" = some (some (.ref (He.ma M.T.K (M.T.ecl c) "__init__"))))
    (ht : PySem.W.typeIn M.T.K (.ref (He.ma M.T.K (M.T.ecl c) "__init__")) = some (.type "function")) (hn : PySem.W.findIn M.T.K (.ref (M.T.ecl c)) fl = some none) (hm : M.mg x = some (.ref (M.T.ecl c)))
    (F : FunD M.T.K iname iqual pr bd sc [] [] (He.ma M.T.K (M.T.ecl c) "__init__") fd) (hb : Bd iname iqual pr bd sc [("self" : Str), fl]) (SC : FnScope [("self" : Str), fl] [("self" : Str), fl] sc)
    (hbd : bd = [.Assign [.Attribute (.Name ("self" : Str) j1) fl j2] (.Name fl j3) j4]) (l0 : sc.names.lookup ("self" : Str) = some .local) (l1 : sc.names.lookup fl = some .local) (hd : (fl == ("__debug__" : Str)) = false) (hcd : (fl == ("__classdict__" : Str)) = false) : ErrGood M c x fl := by
  refine ⟨ho, hf, ⟨_, fd, _, hi, ht, ?_, F.bindsN hb⟩, hm⟩
  subst hbd
  refine F.ok (k := 0) SC (fun vs H Q E h => ?_) (fun cdv A outer s H vs Q E hr h => ?_)
  · obtain ⟨a, y, rfl, _⟩ := h
    rfl
  · obtain ⟨a, y, rfl, hH, hQ⟩ := h
    refine ⟨tOst M.T.K fl (tVar 0) (tVar 1), PSs.nox (pss_one (ps_ost (pe_var (i := 0) rfl (.inl (by exact l0)) (by decide) (by decide)) (pe_var (i := 1) rfl (.inl (by exact l1)) hd hcd))), ?_⟩
    exact ⟨y, rfl, .ref a, rfl, a, M.T.ecl c, rfl, ho, hn, .inl ⟨hH, fun dx h1 h2 => hQ dx h1 h2⟩⟩
theorem told_hit {K : PySem.W.Frag} {Q : VK} {p : Told} {l : List Told} {dd : Addr} {fs : List (Str × V)} {v : V} {H : Hp} (h : PySem.W.exmOne K (.ref p.C) (.ref p.C) = some true) (hd : H dd = some (.xd fs)) (hf : fs.lookup p.f = some v) (hq : ∀ q, H q = none → Q (.ref q) (upd H q (.tup [.str p.word, v]))) : eTold K Q (p :: l) (.ref p.C) (some dd) H :=
  ⟨true, h, fun _ => ⟨dd, fs, v, rfl, rfl, hd, hf, hq⟩, fun e => by cases e⟩
theorem told_miss {K : PySem.W.Frag} {Q : VK} {p : Told} {l : List Told} {C : Addr} {d : Option Addr} {H : Hp} (h : PySem.W.exmOne K (.ref C) (.ref p.C) = some false) (r : eTold K Q l (.ref C) d H) : eTold K Q (p :: l) (.ref C) d H :=
  ⟨false, h, (fun e => by cases e), fun _ => r⟩
theorem mw_of {gA : Addr} {x a e : Str} {Ng : List Str} {w : List Nat} {hs : List (Nat × List Nat)} {l : List Told} {h0 : ExceptHandler} {hh : List ExceptHandler} {j kk : Nat} {p1 p2 p3 p4 p5 p6 : Pos} {pg : Arguments} {bd : List Stmt} {sc : Scope}
    (F : FunD M.T.K x x pg bd sc [] [] gA fd) (hm : M.mg x = some (.ref gA)) (hb : Bd x x pg bd sc [a]) (SC : FnScope Ng [a] sc) (h1 : Ng[0]? = some a) (h2 : Ng[1]? = some e) (la : sc.names.lookup a = some .local) (le : sc.names.lookup e = some .local)
    (hda : (a == ("__debug__" : Str)) = false) (hca : (a == ("__classdict__" : Str)) = false) (hde : (e == ("__debug__" : Str)) = false) (hce : (e == ("__classdict__" : Str)) = false)
    (hbd : bd = [.Try [.Return (some (.Tuple [.Constant (.str (sv w)) j p4, .Call (.Name a p1) [] [] p2] kk p5)) p3] (h0 :: hh) [] [] p6]) (hT : ToldHs M.T.K M.mg sc e l (h0 :: hh)) (hz : ∀ f : Addr, (L2.start Ng [V.ref f])[0]? = some (some (V.ref f)))
    (ht : ∀ (Q : VK) (c : Nat) (w' : List Nat) (f : Str) (dd : Addr) (fs : List (Str × V)) (v : V) (H : Hp), hs.lookup c = some w' → (M.T.efl c)[0]? = some f → H dd = some (.xd fs) → fs.lookup f = some v → (∀ q, H q = none → Q (.ref q) (upd H q (.tup [.str (sv w'), v]))) → eTold M.T.K Q l (.ref (M.T.ecl c)) (some dd) H) : MwGood M x w hs := by
  (obtain ⟨oc, od, dV, kV, doc, pm, an, cdv, ct, osl, rfl, lk, hcd, _, _⟩ := F.ex)
  subst hbd
  refine ⟨gA, pg, _, sc, dV, kV, doc, pm, cdv, ct, oc, an, od, osl, Ng, a, l, hm, F.kp, lk, hcd, F.bindsN hb, SC, h1, .inl la, hda, hca, fun X e1 e2 q => ?_, ht⟩
  rw [← e1]
  exact told_gives SC.nd h2 le hde hce (by rw [e1, e2]; exact hT) hz
end
end Pv
namespace Pv
open PySem
/-- fields' names: those that are written, then names that no text has -/
theorem fldN_inj {l : List Str} (nd : l.Nodup) (h0 : ∀ x ∈ l, x.cps[0]? ≠ some 0) {f g : Nat} (e : (l[f]?).getD (⟨#[0, f]⟩ : Str) = (l[g]?).getD (⟨#[0, g]⟩ : Str)) : f = g := by
  cases ef : l[f]? with
  | none => cases eg : l[g]? with
    | none =>
      rw [ef, eg] at e
      have e2 : (⟨#[0, f]⟩ : Str) = ⟨#[0, g]⟩ := e
      injection e2 with e3
      have e4 : #[0, f][1]? = #[0, g][1]? := by rw [e3]
      exact Option.some.inj e4
    | some y =>
      rw [ef, eg] at e
      have e2 : (⟨#[0, f]⟩ : Str) = y := e
      exact absurd (by rw [← e2] <;> rfl) (h0 y (List.mem_of_getElem? eg))
  | some x => cases eg : l[g]? with
    | none =>
      rw [ef, eg] at e
      have e2 : x = (⟨#[0, g]⟩ : Str) := e
      exact absurd (by rw [e2] <;> rfl) (h0 x (List.mem_of_getElem? ef))
    | some y =>
      rw [ef, eg] at e
      have e2 : x = y := e
      subst e2
      exact (List.getElem?_inj (List.getElem?_eq_some_iff.mp ef).1 nd).mp (ef.trans eg.symm)
theorem fldN_ne {l : List Str} {m : Str} (h : m ∉ l) (h0 : m.cps[0]? ≠ some 0) (n : Nat) : (l[n]?).getD (⟨#[0, n]⟩ : Str) ≠ m := by
  cases e : l[n]? with
  | none => exact fun z => h0 (by rw [← z] <;> rfl)
  | some x => exact fun z => h (by rw [← z]; exact List.mem_of_getElem? e)
end Pv
namespace K85
open PySem PySem.Spec PyProof.Rows L2 Pv
def d_is_text : He.DefD := ⟨(("is_text" : Str), none), ("is_text" : Str), ("is_text" : Str), defArgs s_is_text, defBody s_is_text, defScope s_is_text, [], []⟩
def d_is_name : He.DefD := ⟨(("is_name" : Str), none), ("is_name" : Str), ("is_name" : Str), defArgs s_is_name, defBody s_is_name, defScope s_is_name, [], []⟩
def d_is_deed : He.DefD := ⟨(("is_deed" : Str), none), ("is_deed" : Str), ("is_deed" : Str), defArgs s_is_deed, defBody s_is_deed, defScope s_is_deed, [], []⟩
def d_is_lines : He.DefD := ⟨(("is_lines" : Str), none), ("is_lines" : Str), ("is_lines" : Str), defArgs s_is_lines, defBody s_is_lines, defScope s_is_lines, [], []⟩
def d_is_flat : He.DefD := ⟨(("is_flat" : Str), none), ("is_flat" : Str), ("is_flat" : Str), defArgs s_is_flat, defBody s_is_flat, defScope s_is_flat, [], []⟩
def d_flat_word : He.DefD := ⟨(("flat_word" : Str), none), ("flat_word" : Str), ("flat_word" : Str), defArgs s_flat_word, defBody s_flat_word, defScope s_flat_word, [], []⟩
def d_number_at : He.DefD := ⟨(("number_at" : Str), none), ("number_at" : Str), ("number_at" : Str), defArgs s_number_at, defBody s_number_at, defScope s_number_at, [], []⟩
def d_row_at : He.DefD := ⟨(("row_at" : Str), none), ("row_at" : Str), ("row_at" : Str), defArgs s_row_at, defBody s_row_at, defScope s_row_at, [], []⟩
def d_thing_at : He.DefD := ⟨(("thing_at" : Str), none), ("thing_at" : Str), ("thing_at" : Str), defArgs s_thing_at, defBody s_thing_at, defScope s_thing_at, [], []⟩
def d_plain_deed : He.DefD := ⟨(("plain_deed" : Str), none), ("plain_deed" : Str), ("plain_deed" : Str), defArgs s_plain_deed, defBody s_plain_deed, defScope s_plain_deed, [], []⟩
def d_deed_lines : He.DefD := ⟨(("deed_lines" : Str), none), ("deed_lines" : Str), ("deed_lines" : Str), defArgs s_deed_lines, defBody s_deed_lines, defScope s_deed_lines, [], []⟩
def d_deeds_text : He.DefD := ⟨(("deeds_text" : Str), none), ("deeds_text" : Str), ("deeds_text" : Str), defArgs s_deeds_text, defBody s_deeds_text, defScope s_deeds_text, [], []⟩
def d_figure_of : He.DefD := ⟨(("figure_of" : Str), none), ("figure_of" : Str), ("figure_of" : Str), defArgs s_figure_of, defBody s_figure_of, defScope s_figure_of, [], []⟩
def d_DeedReading___init__ : He.DefD := ⟨(("DeedReading" : Str), some ("__init__" : Str)), ("__init__" : Str), ("DeedReading.__init__" : Str), defArgs s_DeedReading___init__, defBody s_DeedReading___init__, defScope s_DeedReading___init__, [], []⟩
def d_DeedReading_close : He.DefD := ⟨(("DeedReading" : Str), some ("close" : Str)), ("close" : Str), ("DeedReading.close" : Str), defArgs s_DeedReading_close, defBody s_DeedReading_close, defScope s_DeedReading_close, [], []⟩
def d_DeedReading_take_line : He.DefD := ⟨(("DeedReading" : Str), some ("take_line" : Str)), ("take_line" : Str), ("DeedReading.take_line" : Str), defArgs s_DeedReading_take_line, defBody s_DeedReading_take_line, defScope s_DeedReading_take_line, [], []⟩
def d_DeedReading_take_put : He.DefD := ⟨(("DeedReading" : Str), some ("take_put" : Str)), ("take_put" : Str), ("DeedReading.take_put" : Str), defArgs s_DeedReading_take_put, defBody s_DeedReading_take_put, defScope s_DeedReading_take_put, [], []⟩
def d_DeedReading_take : He.DefD := ⟨(("DeedReading" : Str), some ("take" : Str)), ("take" : Str), ("DeedReading.take" : Str), defArgs s_DeedReading_take, defBody s_DeedReading_take, defScope s_DeedReading_take, [], []⟩
def d_lines_read : He.DefD := ⟨(("lines_read" : Str), none), ("lines_read" : Str), ("lines_read" : Str), defArgs s_lines_read, defBody s_lines_read, defScope s_lines_read, [], []⟩
def d_deeds_fault : He.DefD := ⟨(("deeds_fault" : Str), none), ("deeds_fault" : Str), ("deeds_fault" : Str), defArgs s_deeds_fault, defBody s_deeds_fault, defScope s_deeds_fault, [], []⟩
def d_read_deeds : He.DefD := ⟨(("read_deeds" : Str), none), ("read_deeds" : Str), ("read_deeds" : Str), defArgs s_read_deeds, defBody s_read_deeds, defScope s_read_deeds, [], []⟩
def d__law_mbent : He.DefD := ⟨(("_law_mbent" : Str), none), ("_law_mbent" : Str), ("_law_mbent" : Str), defArgs s__law_mbent, defBody s__law_mbent, defScope s__law_mbent, [], []⟩
def d__law_mtext : He.DefD := ⟨(("_law_mtext" : Str), none), ("_law_mtext" : Str), ("_law_mtext" : Str), defArgs s__law_mtext, defBody s__law_mtext, defScope s__law_mtext, [], []⟩
def d__law_start : He.DefD := ⟨(("_law_start" : Str), none), ("_law_start" : Str), ("_law_start" : Str), defArgs s__law_start, defBody s__law_start, defScope s__law_start, [], []⟩
def d__law_below : He.DefD := ⟨(("_law_below" : Str), none), ("_law_below" : Str), ("_law_below" : Str), defArgs s__law_below, defBody s__law_below, defScope s__law_below, [], []⟩
def d__law_pick : He.DefD := ⟨(("_law_pick" : Str), none), ("_law_pick" : Str), ("_law_pick" : Str), defArgs s__law_pick, defBody s__law_pick, defScope s__law_pick, [], []⟩
def d__law_copied : He.DefD := ⟨(("_law_copied" : Str), none), ("_law_copied" : Str), ("_law_copied" : Str), defArgs s__law_copied, defBody s__law_copied, defScope s__law_copied, [], []⟩
def d__law_same : He.DefD := ⟨(("_law_same" : Str), none), ("_law_same" : Str), ("_law_same" : Str), defArgs s__law_same, defBody s__law_same, defScope s__law_same, [], []⟩
def d__law_mthing : He.DefD := ⟨(("_law_mthing" : Str), none), ("_law_mthing" : Str), ("_law_mthing" : Str), defArgs s__law_mthing, defBody s__law_mthing, defScope s__law_mthing, [], []⟩
def d__law_mflat : He.DefD := ⟨(("_law_mflat" : Str), none), ("_law_mflat" : Str), ("_law_mflat" : Str), defArgs s__law_mflat, defBody s__law_mflat, defScope s__law_mflat, [], []⟩
def d__law_mflat_read : He.DefD := ⟨(("_law_mflat_read" : Str), none), ("_law_mflat_read" : Str), ("_law_mflat_read" : Str), defArgs s__law_mflat_read, defBody s__law_mflat_read, defScope s__law_mflat_read, [], []⟩
def d__law_mname : He.DefD := ⟨(("_law_mname" : Str), none), ("_law_mname" : Str), ("_law_mname" : Str), defArgs s__law_mname, defBody s__law_mname, defScope s__law_mname, [], []⟩
def d__law_mcount_in : He.DefD := ⟨(("_law_mcount_in" : Str), none), ("_law_mcount_in" : Str), ("_law_mcount_in" : Str), defArgs s__law_mcount_in, defBody s__law_mcount_in, defScope s__law_mcount_in, [], []⟩
def d__law_mread_lines : He.DefD := ⟨(("_law_mread_lines" : Str), none), ("_law_mread_lines" : Str), ("_law_mread_lines" : Str), defArgs s__law_mread_lines, defBody s__law_mread_lines, defScope s__law_mread_lines, [], []⟩
def d__law_mform : He.DefD := ⟨(("_law_mform" : Str), none), ("_law_mform" : Str), ("_law_mform" : Str), defArgs s__law_mform, defBody s__law_mform, defScope s__law_mform, [], []⟩
def d__law_mword : He.DefD := ⟨(("_law_mword" : Str), none), ("_law_mword" : Str), ("_law_mword" : Str), defArgs s__law_mword, defBody s__law_mword, defScope s__law_mword, [], []⟩
def d_law : He.DefD := ⟨(("law" : Str), none), ("law" : Str), ("law" : Str), defArgs s_law, defBody s_law, defScope s_law, [], []⟩
abbrev e_BadDeed : Stmt := inCls (top 2) 0
def d_eBadDeed : He.DefD := ⟨(("BadDeed" : Str), some ("__init__" : Str)), ("__init__" : Str), ("BadDeed.__init__" : Str), defArgs e_BadDeed, defBody e_BadDeed, defScope e_BadDeed, [], []⟩
abbrev e_BadLine : Stmt := inCls (top 3) 0
def d_eBadLine : He.DefD := ⟨(("BadLine" : Str), some ("__init__" : Str)), ("__init__" : Str), ("BadLine.__init__" : Str), defArgs e_BadLine, defBody e_BadLine, defScope e_BadLine, [], []⟩
def fn : List He.DefD := [d_is_text, d_is_name, d_is_deed, d_is_lines, d_is_flat, d_flat_word, d_number_at, d_row_at, d_thing_at, d_plain_deed, d_deed_lines, d_deeds_text, d_figure_of, d_DeedReading___init__, d_DeedReading_close, d_DeedReading_take_line, d_DeedReading_take_put, d_DeedReading_take, d_lines_read, d_deeds_fault, d_read_deeds, d__law_mbent, d__law_mtext, d__law_start, d__law_below, d__law_pick, d__law_copied, d__law_same, d__law_mthing, d__law_mflat, d__law_mflat_read, d__law_mname, d__law_mcount_in, d__law_mread_lines, d__law_mform, d__law_mword, d_law, d_eBadDeed, d_eBadLine]
def fa : List He.Fa := [
  .free ("len" : Str),
  .free ("int" : Str),
  .free ("str" : Str),
  .free ("list" : Str),
  .free ("tuple" : Str),
  .free ("sum" : Str),
  .free ("all" : Str),
  .free ("isinstance" : Str),
  .free ("range" : Str),
  .free ("enumerate" : Str),
  .free ("zip" : Str),
  .free ("bool" : Str),
  .free ("dict" : Str),
  .glo ("is_text" : Str),
  .glo ("is_name" : Str),
  .glo ("is_deed" : Str),
  .glo ("is_lines" : Str),
  .glo ("is_flat" : Str),
  .glo ("flat_word" : Str),
  .glo ("number_at" : Str),
  .glo ("row_at" : Str),
  .glo ("thing_at" : Str),
  .glo ("plain_deed" : Str),
  .glo ("deed_lines" : Str),
  .glo ("deeds_text" : Str),
  .glo ("figure_of" : Str),
  .glo ("lines_read" : Str),
  .glo ("deeds_fault" : Str),
  .glo ("read_deeds" : Str),
  .glo ("_law_mbent" : Str),
  .glo ("_law_mtext" : Str),
  .glo ("_law_start" : Str),
  .glo ("_law_below" : Str),
  .glo ("_law_pick" : Str),
  .glo ("_law_copied" : Str),
  .glo ("_law_same" : Str),
  .glo ("_law_mthing" : Str),
  .glo ("_law_mflat" : Str),
  .glo ("_law_mflat_read" : Str),
  .glo ("_law_mname" : Str),
  .glo ("_law_mcount_in" : Str),
  .glo ("_law_mread_lines" : Str),
  .glo ("_law_mform" : Str),
  .glo ("_law_mword" : Str),
  .glo ("law" : Str),
  .glo ("DeedReading" : Str),
  .cls ("DeedReading" : Str),
  .mkr ("DeedReading" : Str),
  .noat ("DeedReading" : Str) ("deeds" : Str),
  .noat ("DeedReading" : Str) ("left" : Str),
  .noat ("DeedReading" : Str) ("lines" : Str),
  .meth ("DeedReading" : Str) ("__init__" : Str),
  .meth ("DeedReading" : Str) ("close" : Str),
  .meth ("DeedReading" : Str) ("take_line" : Str),
  .meth ("DeedReading" : Str) ("take_put" : Str),
  .meth ("DeedReading" : Str) ("take" : Str),
  .glo ("BadDeed" : Str),
  .glo ("BadLine" : Str),
  .exm ("BadDeed" : Str) ("BadDeed" : Str) true,
  .exm ("BadDeed" : Str) ("BadLine" : Str) false,
  .exm ("BadLine" : Str) ("BadDeed" : Str) false,
  .exm ("BadLine" : Str) ("BadLine" : Str) true]
def ts : List He.Tab := [(fun K => He.ga K ("SIZES" : Str), [("put" : Str), ("drop" : Str), ("change" : Str)])]
def tf : List He.Defn := [(("law" : Str), none)]
def ex (K : PySem.W.Frag) : Bool := gvB K ("LETTERS" : Str) g_LETTERS && gvB K ("FIGURES" : Str) g_FIGURES && gvB K ("SIGNS" : Str) g_SIGNS && gvB K ("KEYS" : Str) g_KEYS && gvB K ("SIZES" : Str) g_SIZES && gvB K ("LONG" : Str) g_LONG && gvB K ("MARK" : Str) g_MARK && gvB K ("DEEP" : Str) g_DEEP && gvB K ("PLACES" : Str) g_PLACES && oexB K (He.ga K ("BadDeed" : Str)) && xfB K (He.ga K ("BadDeed" : Str)) && decide (PySem.W.findIn K (.ref (He.ga K ("BadDeed" : Str))) "__init__" = some (some (.ref (He.ma K (He.ga K ("BadDeed" : Str)) "__init__")))) && decide (PySem.W.typeIn K (.ref (He.ma K (He.ga K ("BadDeed" : Str)) "__init__")) = some (.type "function")) && decide (PySem.W.findIn K (.ref (He.ga K ("BadDeed" : Str))) ("index" : Str) = some none) && oexB K (He.ga K ("BadLine" : Str)) && xfB K (He.ga K ("BadLine" : Str)) && decide (PySem.W.findIn K (.ref (He.ga K ("BadLine" : Str))) "__init__" = some (some (.ref (He.ma K (He.ga K ("BadLine" : Str)) "__init__")))) && decide (PySem.W.typeIn K (.ref (He.ma K (He.ga K ("BadLine" : Str)) "__init__")) = some (.type "function")) && decide (PySem.W.findIn K (.ref (He.ga K ("BadLine" : Str))) ("line" : Str) = some none)
abbrev R : PySem.W.OpenRow := PySem.W.OpenLaw.row PySem.Challenge.rw_tellback_k85_texts_of_deeds
abbrev hk : PySem.W.Hook := He.hookX 6 fa fn ts tf ex
def ob (s : PySem.W.SharedT) : He.AlX := He.obsX 6 fa fn ts tf ex (HandSHeadRun.getT s)
theorem ob_eq (s : PySem.W.SharedT) : ob s = hk.obs s.abs := He.obsX_eq (HandSHeadRun.getT_eq s)
def loose : List Str := [("WriteError" : Str), ("BadDeed" : Str), ("BadLine" : Str), ("LETTERS" : Str), ("FIGURES" : Str), ("SIGNS" : Str), ("KEYS" : Str), ("is_text" : Str), ("is_name" : Str), ("SIZES" : Str), ("is_deed" : Str), ("LONG" : Str), ("MARK" : Str), ("DEEP" : Str), ("PLACES" : Str), ("is_lines" : Str), ("is_flat" : Str), ("flat_word" : Str), ("number_at" : Str), ("row_at" : Str), ("thing_at" : Str), ("plain_deed" : Str), ("deed_lines" : Str), ("deeds_text" : Str), ("figure_of" : Str), ("DeedReading" : Str), ("lines_read" : Str), ("deeds_fault" : Str), ("read_deeds" : Str), ("_law_mbent" : Str), ("_law_mtext" : Str), ("_law_start" : Str), ("_law_below" : Str), ("_law_pick" : Str), ("_law_copied" : Str), ("_law_same" : Str), ("_law_mthing" : Str), ("_law_mflat" : Str), ("_law_mflat_read" : Str), ("_law_mname" : Str), ("_law_mcount_in" : Str), ("_law_mread_lines" : Str), ("_law_mform" : Str), ("_law_mword" : Str)]
abbrev qv : Program := PySem.W.view R.prog [49]
theorem run (w : World) : HandSHeadRun.RunEq R qv hk ob 3000 loose w :=
  PySem.W.byRow2 (P := fun w => HandSHeadRun.RunEq R qv hk ob 3000 loose w) "special-get-raises" (fun w os => by kernel_rfl) (fun w os => by kernel_rfl) w
end K85
namespace K85
open PySem PySem.Spec PyProof.Rows L2 Pv
def ks (K : PySem.W.Frag) (w : World) : Ks where
  K := K
  W := w
  cls := fun c => match c with
    | 0 => He.ga K ("DeedReading" : Str)
    | _ => He.ga K ("DeedReading" : Str)
  fld := fun n => (gs.fdN[n]?).getD ⟨#[0, n]⟩
  ecl := fun c => match c with
    | 0 => He.ga K ("BadDeed" : Str)
    | 1 => He.ga K ("BadLine" : Str)
    | _ => 0
  efl := fun c => match c with
    | 0 => [("index" : Str)]
    | 1 => [("line" : Str)]
    | _ => []
  tabs := [((He.cT K (("law" : Str), none)).2, ("law.<locals>." : Str) ++ ("<lambda>" : Str))]
def gm (P : Program) (K : PySem.W.Frag) (w : World) (mg : Str → Option Value) (base : Heap) : Gm := ⟨P, ks K w, mg, base, pg, fun f => match fn[f]? with
  | some d => He.fAd K d.at_
  | none => 0⟩
section
variable {P : Program} {K : PySem.W.Frag} {w : World} {h : Heap} {mg : Str → Option Value} {base : Heap} {k : Nat}
abbrev Sy (K : PySem.W.Frag) (w : World) (h : Heap) : Prop := He.SaysX fa fn ts tf ex w h K
theorem fd_is_text (S : Sy K w h) : ∃ fd, FunD K ("is_text" : Str) ("is_text" : Str) (defArgs s_is_text) (defBody s_is_text) (defScope s_is_text) [] [] ((gm P K w mg base).fa 0) fd := S.t.d.def_ 0 (d := d_is_text) rfl
theorem bd_is_text : Bd ("is_text" : Str) ("is_text" : Str) (defArgs s_is_text) (defBody s_is_text) (defScope s_is_text) p_is_text := fun kV doc pm an cdv ct us hl => match us, hl with
  | [_, _, _], _ => rfl
theorem sc_is_text : FnScope n_is_text p_is_text (defScope s_is_text) := ⟨rfl, rfl, rfl, by decide +kernel, rfl, by decide +kernel, by decide +kernel⟩
theorem ch_is_text : chkSs gs ⟨n_is_text, defScope s_is_text, true, false⟩ b_is_text (defBody s_is_text) = true := by decide +kernel
theorem ok_is_text (S : Sy K w h) (hG : ∀ j, k = j + 1 → Gd (gm P K w mg base) j gs) : ∃ fd, FnGood (gm P K w mg base) k 0 fd p_is_text := by
  obtain ⟨fd, F⟩ := fd_is_text (P := P) (mg := mg) (base := base) S
  exact ⟨fd, good_all (M := gm P K w mg base) F bd_is_text sc_is_text rfl rfl rfl ch_is_text hG⟩
theorem fd_is_name (S : Sy K w h) : ∃ fd, FunD K ("is_name" : Str) ("is_name" : Str) (defArgs s_is_name) (defBody s_is_name) (defScope s_is_name) [] [] ((gm P K w mg base).fa 1) fd := S.t.d.def_ 1 (d := d_is_name) rfl
theorem bd_is_name : Bd ("is_name" : Str) ("is_name" : Str) (defArgs s_is_name) (defBody s_is_name) (defScope s_is_name) p_is_name := fun kV doc pm an cdv ct us hl => match us, hl with
  | [_], _ => rfl
theorem sc_is_name : FnScope n_is_name p_is_name (defScope s_is_name) := ⟨rfl, rfl, rfl, by decide +kernel, rfl, by decide +kernel, by decide +kernel⟩
theorem ch_is_name : chkSs gs ⟨n_is_name, defScope s_is_name, true, false⟩ b_is_name (defBody s_is_name) = true := by decide +kernel
theorem ok_is_name (S : Sy K w h) (hG : ∀ j, k = j + 1 → Gd (gm P K w mg base) j gs) : ∃ fd, FnGood (gm P K w mg base) k 1 fd p_is_name := by
  obtain ⟨fd, F⟩ := fd_is_name (P := P) (mg := mg) (base := base) S
  exact ⟨fd, good_all (M := gm P K w mg base) F bd_is_name sc_is_name rfl rfl rfl ch_is_name hG⟩
theorem okk_is_name (S : Sy K w h) (hG : ∀ j, k = j + 1 → Gd (gm P K w mg base) j gs) : ∃ fd, FnGood (gm P K w mg base) k 1 fd p_is_name ∧ KBn K fd p_is_name 0 [("thing" : Str)] (fun _ ws => ws) (fun _ zs => zs) := by
  obtain ⟨fd, F⟩ := fd_is_name (P := P) (mg := mg) (base := base) S
  exact ⟨fd, good_all (M := gm P K w mg base) F bd_is_name sc_is_name rfl rfl rfl ch_is_name hG, kb_of F fun kV doc pm an cdv ct w => rfl⟩
theorem fd_is_deed (S : Sy K w h) : ∃ fd, FunD K ("is_deed" : Str) ("is_deed" : Str) (defArgs s_is_deed) (defBody s_is_deed) (defScope s_is_deed) [] [] ((gm P K w mg base).fa 2) fd := S.t.d.def_ 2 (d := d_is_deed) rfl
theorem bd_is_deed : Bd ("is_deed" : Str) ("is_deed" : Str) (defArgs s_is_deed) (defBody s_is_deed) (defScope s_is_deed) p_is_deed := fun kV doc pm an cdv ct us hl => match us, hl with
  | [_], _ => rfl
theorem sc_is_deed : FnScope n_is_deed p_is_deed (defScope s_is_deed) := ⟨rfl, rfl, rfl, by decide +kernel, rfl, by decide +kernel, by decide +kernel⟩
theorem ch_is_deed : chkSs gs ⟨n_is_deed, defScope s_is_deed, true, false⟩ b_is_deed (defBody s_is_deed) = true := by decide +kernel
theorem ok_is_deed (S : Sy K w h) (hG : ∀ j, k = j + 1 → Gd (gm P K w mg base) j gs) : ∃ fd, FnGood (gm P K w mg base) k 2 fd p_is_deed := by
  obtain ⟨fd, F⟩ := fd_is_deed (P := P) (mg := mg) (base := base) S
  exact ⟨fd, good_all (M := gm P K w mg base) F bd_is_deed sc_is_deed rfl rfl rfl ch_is_deed hG⟩
theorem okk_is_deed (S : Sy K w h) (hG : ∀ j, k = j + 1 → Gd (gm P K w mg base) j gs) : ∃ fd, FnGood (gm P K w mg base) k 2 fd p_is_deed ∧ KBn K fd p_is_deed 0 [("thing" : Str)] (fun _ ws => ws) (fun _ zs => zs) := by
  obtain ⟨fd, F⟩ := fd_is_deed (P := P) (mg := mg) (base := base) S
  exact ⟨fd, good_all (M := gm P K w mg base) F bd_is_deed sc_is_deed rfl rfl rfl ch_is_deed hG, kb_of F fun kV doc pm an cdv ct w => rfl⟩
theorem fd_is_lines (S : Sy K w h) : ∃ fd, FunD K ("is_lines" : Str) ("is_lines" : Str) (defArgs s_is_lines) (defBody s_is_lines) (defScope s_is_lines) [] [] ((gm P K w mg base).fa 3) fd := S.t.d.def_ 3 (d := d_is_lines) rfl
theorem bd_is_lines : Bd ("is_lines" : Str) ("is_lines" : Str) (defArgs s_is_lines) (defBody s_is_lines) (defScope s_is_lines) p_is_lines := fun kV doc pm an cdv ct us hl => match us, hl with
  | [_], _ => rfl
theorem sc_is_lines : FnScope n_is_lines p_is_lines (defScope s_is_lines) := ⟨rfl, rfl, rfl, by decide +kernel, rfl, by decide +kernel, by decide +kernel⟩
theorem ch_is_lines : chkSs gs ⟨n_is_lines, defScope s_is_lines, true, false⟩ b_is_lines (defBody s_is_lines) = true := by decide +kernel
theorem ok_is_lines (S : Sy K w h) (hG : ∀ j, k = j + 1 → Gd (gm P K w mg base) j gs) : ∃ fd, FnGood (gm P K w mg base) k 3 fd p_is_lines := by
  obtain ⟨fd, F⟩ := fd_is_lines (P := P) (mg := mg) (base := base) S
  exact ⟨fd, good_all (M := gm P K w mg base) F bd_is_lines sc_is_lines rfl rfl rfl ch_is_lines hG⟩
theorem okk_is_lines (S : Sy K w h) (hG : ∀ j, k = j + 1 → Gd (gm P K w mg base) j gs) : ∃ fd, FnGood (gm P K w mg base) k 3 fd p_is_lines ∧ KBn K fd p_is_lines 0 [("thing" : Str)] (fun _ ws => ws) (fun _ zs => zs) := by
  obtain ⟨fd, F⟩ := fd_is_lines (P := P) (mg := mg) (base := base) S
  exact ⟨fd, good_all (M := gm P K w mg base) F bd_is_lines sc_is_lines rfl rfl rfl ch_is_lines hG, kb_of F fun kV doc pm an cdv ct w => rfl⟩
theorem fd_is_flat (S : Sy K w h) : ∃ fd, FunD K ("is_flat" : Str) ("is_flat" : Str) (defArgs s_is_flat) (defBody s_is_flat) (defScope s_is_flat) [] [] ((gm P K w mg base).fa 4) fd := S.t.d.def_ 4 (d := d_is_flat) rfl
theorem bd_is_flat : Bd ("is_flat" : Str) ("is_flat" : Str) (defArgs s_is_flat) (defBody s_is_flat) (defScope s_is_flat) p_is_flat := fun kV doc pm an cdv ct us hl => match us, hl with
  | [_, _], _ => rfl
theorem sc_is_flat : FnScope n_is_flat p_is_flat (defScope s_is_flat) := ⟨rfl, rfl, rfl, by decide +kernel, rfl, by decide +kernel, by decide +kernel⟩
theorem ch_is_flat : chkSs gs ⟨n_is_flat, defScope s_is_flat, true, false⟩ b_is_flat (defBody s_is_flat) = true := by decide +kernel
theorem ok_is_flat (S : Sy K w h) (hG : ∀ j, k = j + 1 → Gd (gm P K w mg base) j gs) : ∃ fd, FnGood (gm P K w mg base) k 4 fd p_is_flat := by
  obtain ⟨fd, F⟩ := fd_is_flat (P := P) (mg := mg) (base := base) S
  exact ⟨fd, good_all (M := gm P K w mg base) F bd_is_flat sc_is_flat rfl rfl rfl ch_is_flat hG⟩
theorem fd_flat_word (S : Sy K w h) : ∃ fd, FunD K ("flat_word" : Str) ("flat_word" : Str) (defArgs s_flat_word) (defBody s_flat_word) (defScope s_flat_word) [] [] ((gm P K w mg base).fa 5) fd := S.t.d.def_ 5 (d := d_flat_word) rfl
theorem bd_flat_word : Bd ("flat_word" : Str) ("flat_word" : Str) (defArgs s_flat_word) (defBody s_flat_word) (defScope s_flat_word) p_flat_word := fun kV doc pm an cdv ct us hl => match us, hl with
  | [_], _ => rfl
theorem sc_flat_word : FnScope n_flat_word p_flat_word (defScope s_flat_word) := ⟨rfl, rfl, rfl, by decide +kernel, rfl, by decide +kernel, by decide +kernel⟩
theorem ch_flat_word : chkSs gs ⟨n_flat_word, defScope s_flat_word, true, false⟩ b_flat_word (defBody s_flat_word) = true := by decide +kernel
theorem ok_flat_word (S : Sy K w h) (hG : ∀ j, k = j + 1 → Gd (gm P K w mg base) j gs) : ∃ fd, FnGood (gm P K w mg base) k 5 fd p_flat_word := by
  obtain ⟨fd, F⟩ := fd_flat_word (P := P) (mg := mg) (base := base) S
  exact ⟨fd, good_all (M := gm P K w mg base) F bd_flat_word sc_flat_word rfl rfl rfl ch_flat_word hG⟩
theorem okk_flat_word (S : Sy K w h) (hG : ∀ j, k = j + 1 → Gd (gm P K w mg base) j gs) : ∃ fd, FnGood (gm P K w mg base) k 5 fd p_flat_word ∧ KBn K fd p_flat_word 0 [("thing" : Str)] (fun _ ws => ws) (fun _ zs => zs) := by
  obtain ⟨fd, F⟩ := fd_flat_word (P := P) (mg := mg) (base := base) S
  exact ⟨fd, good_all (M := gm P K w mg base) F bd_flat_word sc_flat_word rfl rfl rfl ch_flat_word hG, kb_of F fun kV doc pm an cdv ct w => rfl⟩
theorem fd_number_at (S : Sy K w h) : ∃ fd, FunD K ("number_at" : Str) ("number_at" : Str) (defArgs s_number_at) (defBody s_number_at) (defScope s_number_at) [] [] ((gm P K w mg base).fa 6) fd := S.t.d.def_ 6 (d := d_number_at) rfl
theorem bd_number_at : Bd ("number_at" : Str) ("number_at" : Str) (defArgs s_number_at) (defBody s_number_at) (defScope s_number_at) p_number_at := fun kV doc pm an cdv ct us hl => match us, hl with
  | [_, _], _ => rfl
theorem sc_number_at : FnScope n_number_at p_number_at (defScope s_number_at) := ⟨rfl, rfl, rfl, by decide +kernel, rfl, by decide +kernel, by decide +kernel⟩
theorem ch_number_at : chkSs gs ⟨n_number_at, defScope s_number_at, true, false⟩ b_number_at (defBody s_number_at) = true := by decide +kernel
theorem ok_number_at (S : Sy K w h) (hG : ∀ j, k = j + 1 → Gd (gm P K w mg base) j gs) : ∃ fd, FnGood (gm P K w mg base) k 6 fd p_number_at := by
  obtain ⟨fd, F⟩ := fd_number_at (P := P) (mg := mg) (base := base) S
  exact ⟨fd, good_all (M := gm P K w mg base) F bd_number_at sc_number_at rfl rfl rfl ch_number_at hG⟩
theorem fd_row_at (S : Sy K w h) : ∃ fd, FunD K ("row_at" : Str) ("row_at" : Str) (defArgs s_row_at) (defBody s_row_at) (defScope s_row_at) [] [] ((gm P K w mg base).fa 7) fd := S.t.d.def_ 7 (d := d_row_at) rfl
theorem bd_row_at : Bd ("row_at" : Str) ("row_at" : Str) (defArgs s_row_at) (defBody s_row_at) (defScope s_row_at) p_row_at := fun kV doc pm an cdv ct us hl => match us, hl with
  | [_, _, _], _ => rfl
theorem sc_row_at : FnScope n_row_at p_row_at (defScope s_row_at) := ⟨rfl, rfl, rfl, by decide +kernel, rfl, by decide +kernel, by decide +kernel⟩
theorem ch_row_at : chkSs gs ⟨n_row_at, defScope s_row_at, true, false⟩ b_row_at (defBody s_row_at) = true := by decide +kernel
theorem ok_row_at (S : Sy K w h) (hG : ∀ j, k = j + 1 → Gd (gm P K w mg base) j gs) : ∃ fd, FnGood (gm P K w mg base) k 7 fd p_row_at := by
  obtain ⟨fd, F⟩ := fd_row_at (P := P) (mg := mg) (base := base) S
  exact ⟨fd, good_all (M := gm P K w mg base) F bd_row_at sc_row_at rfl rfl rfl ch_row_at hG⟩
theorem fd_thing_at (S : Sy K w h) : ∃ fd, FunD K ("thing_at" : Str) ("thing_at" : Str) (defArgs s_thing_at) (defBody s_thing_at) (defScope s_thing_at) [] [] ((gm P K w mg base).fa 8) fd := S.t.d.def_ 8 (d := d_thing_at) rfl
theorem bd_thing_at : Bd ("thing_at" : Str) ("thing_at" : Str) (defArgs s_thing_at) (defBody s_thing_at) (defScope s_thing_at) p_thing_at := fun kV doc pm an cdv ct us hl => match us, hl with
  | [_, _, _], _ => rfl
theorem sc_thing_at : FnScope n_thing_at p_thing_at (defScope s_thing_at) := ⟨rfl, rfl, rfl, by decide +kernel, rfl, by decide +kernel, by decide +kernel⟩
theorem ch_thing_at : chkSs gs ⟨n_thing_at, defScope s_thing_at, true, false⟩ b_thing_at (defBody s_thing_at) = true := by decide +kernel
theorem ok_thing_at (S : Sy K w h) (hG : ∀ j, k = j + 1 → Gd (gm P K w mg base) j gs) : ∃ fd, FnGood (gm P K w mg base) k 8 fd p_thing_at := by
  obtain ⟨fd, F⟩ := fd_thing_at (P := P) (mg := mg) (base := base) S
  exact ⟨fd, good_all (M := gm P K w mg base) F bd_thing_at sc_thing_at rfl rfl rfl ch_thing_at hG⟩
theorem fd_plain_deed (S : Sy K w h) : ∃ fd, FunD K ("plain_deed" : Str) ("plain_deed" : Str) (defArgs s_plain_deed) (defBody s_plain_deed) (defScope s_plain_deed) [] [] ((gm P K w mg base).fa 9) fd := S.t.d.def_ 9 (d := d_plain_deed) rfl
theorem bd_plain_deed : Bd ("plain_deed" : Str) ("plain_deed" : Str) (defArgs s_plain_deed) (defBody s_plain_deed) (defScope s_plain_deed) p_plain_deed := fun kV doc pm an cdv ct us hl => match us, hl with
  | [_], _ => rfl
theorem sc_plain_deed : FnScope n_plain_deed p_plain_deed (defScope s_plain_deed) := ⟨rfl, rfl, rfl, by decide +kernel, rfl, by decide +kernel, by decide +kernel⟩
theorem ch_plain_deed : chkSs gs ⟨n_plain_deed, defScope s_plain_deed, true, false⟩ b_plain_deed (defBody s_plain_deed) = true := by decide +kernel
theorem ok_plain_deed (S : Sy K w h) (hG : ∀ j, k = j + 1 → Gd (gm P K w mg base) j gs) : ∃ fd, FnGood (gm P K w mg base) k 9 fd p_plain_deed := by
  obtain ⟨fd, F⟩ := fd_plain_deed (P := P) (mg := mg) (base := base) S
  exact ⟨fd, good_all (M := gm P K w mg base) F bd_plain_deed sc_plain_deed rfl rfl rfl ch_plain_deed hG⟩
theorem okk_plain_deed (S : Sy K w h) (hG : ∀ j, k = j + 1 → Gd (gm P K w mg base) j gs) : ∃ fd, FnGood (gm P K w mg base) k 9 fd p_plain_deed ∧ KBn K fd p_plain_deed 0 [("thing" : Str)] (fun _ ws => ws) (fun _ zs => zs) := by
  obtain ⟨fd, F⟩ := fd_plain_deed (P := P) (mg := mg) (base := base) S
  exact ⟨fd, good_all (M := gm P K w mg base) F bd_plain_deed sc_plain_deed rfl rfl rfl ch_plain_deed hG, kb_of F fun kV doc pm an cdv ct w => rfl⟩
theorem fd_deed_lines (S : Sy K w h) : ∃ fd, FunD K ("deed_lines" : Str) ("deed_lines" : Str) (defArgs s_deed_lines) (defBody s_deed_lines) (defScope s_deed_lines) [] [] ((gm P K w mg base).fa 10) fd := S.t.d.def_ 10 (d := d_deed_lines) rfl
theorem bd_deed_lines : Bd ("deed_lines" : Str) ("deed_lines" : Str) (defArgs s_deed_lines) (defBody s_deed_lines) (defScope s_deed_lines) p_deed_lines := fun kV doc pm an cdv ct us hl => match us, hl with
  | [_], _ => rfl
theorem sc_deed_lines : FnScope n_deed_lines p_deed_lines (defScope s_deed_lines) := ⟨rfl, rfl, rfl, by decide +kernel, rfl, by decide +kernel, by decide +kernel⟩
theorem ch_deed_lines : chkSs gs ⟨n_deed_lines, defScope s_deed_lines, true, false⟩ b_deed_lines (defBody s_deed_lines) = true := by decide +kernel
theorem ok_deed_lines (S : Sy K w h) (hG : ∀ j, k = j + 1 → Gd (gm P K w mg base) j gs) : ∃ fd, FnGood (gm P K w mg base) k 10 fd p_deed_lines := by
  obtain ⟨fd, F⟩ := fd_deed_lines (P := P) (mg := mg) (base := base) S
  exact ⟨fd, good_all (M := gm P K w mg base) F bd_deed_lines sc_deed_lines rfl rfl rfl ch_deed_lines hG⟩
theorem okk_deed_lines (S : Sy K w h) (hG : ∀ j, k = j + 1 → Gd (gm P K w mg base) j gs) : ∃ fd, FnGood (gm P K w mg base) k 10 fd p_deed_lines ∧ KBn K fd p_deed_lines 0 [("deed" : Str)] (fun _ ws => ws) (fun _ zs => zs) := by
  obtain ⟨fd, F⟩ := fd_deed_lines (P := P) (mg := mg) (base := base) S
  exact ⟨fd, good_all (M := gm P K w mg base) F bd_deed_lines sc_deed_lines rfl rfl rfl ch_deed_lines hG, kb_of F fun kV doc pm an cdv ct w => rfl⟩
theorem fd_deeds_text (S : Sy K w h) : ∃ fd, FunD K ("deeds_text" : Str) ("deeds_text" : Str) (defArgs s_deeds_text) (defBody s_deeds_text) (defScope s_deeds_text) [] [] ((gm P K w mg base).fa 11) fd := S.t.d.def_ 11 (d := d_deeds_text) rfl
theorem bd_deeds_text : Bd ("deeds_text" : Str) ("deeds_text" : Str) (defArgs s_deeds_text) (defBody s_deeds_text) (defScope s_deeds_text) p_deeds_text := fun kV doc pm an cdv ct us hl => match us, hl with
  | [_], _ => rfl
theorem sc_deeds_text : FnScope n_deeds_text p_deeds_text (defScope s_deeds_text) := ⟨rfl, rfl, rfl, by decide +kernel, rfl, by decide +kernel, by decide +kernel⟩
theorem ch_deeds_text : chkSs gs ⟨n_deeds_text, defScope s_deeds_text, true, false⟩ b_deeds_text (defBody s_deeds_text) = true := by decide +kernel
theorem ok_deeds_text (S : Sy K w h) (hG : ∀ j, k = j + 1 → Gd (gm P K w mg base) j gs) : ∃ fd, FnGood (gm P K w mg base) k 11 fd p_deeds_text := by
  obtain ⟨fd, F⟩ := fd_deeds_text (P := P) (mg := mg) (base := base) S
  exact ⟨fd, good_all (M := gm P K w mg base) F bd_deeds_text sc_deeds_text rfl rfl rfl ch_deeds_text hG⟩
theorem okk_deeds_text (S : Sy K w h) (hG : ∀ j, k = j + 1 → Gd (gm P K w mg base) j gs) : ∃ fd, FnGood (gm P K w mg base) k 11 fd p_deeds_text ∧ KBn K fd p_deeds_text 0 [("deeds" : Str)] (fun _ ws => ws) (fun _ zs => zs) := by
  obtain ⟨fd, F⟩ := fd_deeds_text (P := P) (mg := mg) (base := base) S
  exact ⟨fd, good_all (M := gm P K w mg base) F bd_deeds_text sc_deeds_text rfl rfl rfl ch_deeds_text hG, kb_of F fun kV doc pm an cdv ct w => rfl⟩
theorem fd_figure_of (S : Sy K w h) : ∃ fd, FunD K ("figure_of" : Str) ("figure_of" : Str) (defArgs s_figure_of) (defBody s_figure_of) (defScope s_figure_of) [] [] ((gm P K w mg base).fa 12) fd := S.t.d.def_ 12 (d := d_figure_of) rfl
theorem bd_figure_of : Bd ("figure_of" : Str) ("figure_of" : Str) (defArgs s_figure_of) (defBody s_figure_of) (defScope s_figure_of) p_figure_of := fun kV doc pm an cdv ct us hl => match us, hl with
  | [_], _ => rfl
theorem sc_figure_of : FnScope n_figure_of p_figure_of (defScope s_figure_of) := ⟨rfl, rfl, rfl, by decide +kernel, rfl, by decide +kernel, by decide +kernel⟩
theorem ch_figure_of : chkSs gs ⟨n_figure_of, defScope s_figure_of, true, false⟩ b_figure_of (defBody s_figure_of) = true := by decide +kernel
theorem ok_figure_of (S : Sy K w h) (hG : ∀ j, k = j + 1 → Gd (gm P K w mg base) j gs) : ∃ fd, FnGood (gm P K w mg base) k 12 fd p_figure_of := by
  obtain ⟨fd, F⟩ := fd_figure_of (P := P) (mg := mg) (base := base) S
  exact ⟨fd, good_all (M := gm P K w mg base) F bd_figure_of sc_figure_of rfl rfl rfl ch_figure_of hG⟩
theorem okk_figure_of (S : Sy K w h) (hG : ∀ j, k = j + 1 → Gd (gm P K w mg base) j gs) : ∃ fd, FnGood (gm P K w mg base) k 12 fd p_figure_of ∧ KBn K fd p_figure_of 0 [("word" : Str)] (fun _ ws => ws) (fun _ zs => zs) := by
  obtain ⟨fd, F⟩ := fd_figure_of (P := P) (mg := mg) (base := base) S
  exact ⟨fd, good_all (M := gm P K w mg base) F bd_figure_of sc_figure_of rfl rfl rfl ch_figure_of hG, kb_of F fun kV doc pm an cdv ct w => rfl⟩
theorem fd_DeedReading___init__ (S : Sy K w h) : ∃ fd, FunD K ("__init__" : Str) ("DeedReading.__init__" : Str) (defArgs s_DeedReading___init__) (defBody s_DeedReading___init__) (defScope s_DeedReading___init__) [] [] ((gm P K w mg base).fa 13) fd := S.t.d.def_ 13 (d := d_DeedReading___init__) rfl
theorem bd_DeedReading___init__ : Bd ("__init__" : Str) ("DeedReading.__init__" : Str) (defArgs s_DeedReading___init__) (defBody s_DeedReading___init__) (defScope s_DeedReading___init__) p_DeedReading___init__ := fun kV doc pm an cdv ct us hl => match us, hl with
  | [_], _ => rfl
theorem sc_DeedReading___init__ : FnScope n_DeedReading___init__ p_DeedReading___init__ (defScope s_DeedReading___init__) := ⟨rfl, rfl, rfl, by decide +kernel, rfl, by decide +kernel, by decide +kernel⟩
theorem ch_DeedReading___init__ : chkSs gs ⟨n_DeedReading___init__, defScope s_DeedReading___init__, true, false⟩ b_DeedReading___init__ (defBody s_DeedReading___init__) = true := by decide +kernel
theorem ok_DeedReading___init__ (S : Sy K w h) (hG : ∀ j, k = j + 1 → Gd (gm P K w mg base) j gs) : ∃ fd, FnGood (gm P K w mg base) k 13 fd p_DeedReading___init__ := by
  obtain ⟨fd, F⟩ := fd_DeedReading___init__ (P := P) (mg := mg) (base := base) S
  exact ⟨fd, good_all (M := gm P K w mg base) F bd_DeedReading___init__ sc_DeedReading___init__ rfl rfl rfl ch_DeedReading___init__ hG⟩
theorem fd_DeedReading_close (S : Sy K w h) : ∃ fd, FunD K ("close" : Str) ("DeedReading.close" : Str) (defArgs s_DeedReading_close) (defBody s_DeedReading_close) (defScope s_DeedReading_close) [] [] ((gm P K w mg base).fa 14) fd := S.t.d.def_ 14 (d := d_DeedReading_close) rfl
theorem bd_DeedReading_close : Bd ("close" : Str) ("DeedReading.close" : Str) (defArgs s_DeedReading_close) (defBody s_DeedReading_close) (defScope s_DeedReading_close) p_DeedReading_close := fun kV doc pm an cdv ct us hl => match us, hl with
  | [_], _ => rfl
theorem sc_DeedReading_close : FnScope n_DeedReading_close p_DeedReading_close (defScope s_DeedReading_close) := ⟨rfl, rfl, rfl, by decide +kernel, rfl, by decide +kernel, by decide +kernel⟩
theorem ch_DeedReading_close : chkSs gs ⟨n_DeedReading_close, defScope s_DeedReading_close, true, false⟩ b_DeedReading_close (defBody s_DeedReading_close) = true := by decide +kernel
theorem ok_DeedReading_close (S : Sy K w h) (hG : ∀ j, k = j + 1 → Gd (gm P K w mg base) j gs) : ∃ fd, FnGood (gm P K w mg base) k 14 fd p_DeedReading_close := by
  obtain ⟨fd, F⟩ := fd_DeedReading_close (P := P) (mg := mg) (base := base) S
  exact ⟨fd, good_all (M := gm P K w mg base) F bd_DeedReading_close sc_DeedReading_close rfl rfl rfl ch_DeedReading_close hG⟩
theorem fd_DeedReading_take_line (S : Sy K w h) : ∃ fd, FunD K ("take_line" : Str) ("DeedReading.take_line" : Str) (defArgs s_DeedReading_take_line) (defBody s_DeedReading_take_line) (defScope s_DeedReading_take_line) [] [] ((gm P K w mg base).fa 15) fd := S.t.d.def_ 15 (d := d_DeedReading_take_line) rfl
theorem bd_DeedReading_take_line : Bd ("take_line" : Str) ("DeedReading.take_line" : Str) (defArgs s_DeedReading_take_line) (defBody s_DeedReading_take_line) (defScope s_DeedReading_take_line) p_DeedReading_take_line := fun kV doc pm an cdv ct us hl => match us, hl with
  | [_, _], _ => rfl
theorem sc_DeedReading_take_line : FnScope n_DeedReading_take_line p_DeedReading_take_line (defScope s_DeedReading_take_line) := ⟨rfl, rfl, rfl, by decide +kernel, rfl, by decide +kernel, by decide +kernel⟩
theorem ch_DeedReading_take_line : chkSs gs ⟨n_DeedReading_take_line, defScope s_DeedReading_take_line, true, false⟩ b_DeedReading_take_line (defBody s_DeedReading_take_line) = true := by decide +kernel
theorem ok_DeedReading_take_line (S : Sy K w h) (hG : ∀ j, k = j + 1 → Gd (gm P K w mg base) j gs) : ∃ fd, FnGood (gm P K w mg base) k 15 fd p_DeedReading_take_line := by
  obtain ⟨fd, F⟩ := fd_DeedReading_take_line (P := P) (mg := mg) (base := base) S
  exact ⟨fd, good_all (M := gm P K w mg base) F bd_DeedReading_take_line sc_DeedReading_take_line rfl rfl rfl ch_DeedReading_take_line hG⟩
theorem fd_DeedReading_take_put (S : Sy K w h) : ∃ fd, FunD K ("take_put" : Str) ("DeedReading.take_put" : Str) (defArgs s_DeedReading_take_put) (defBody s_DeedReading_take_put) (defScope s_DeedReading_take_put) [] [] ((gm P K w mg base).fa 16) fd := S.t.d.def_ 16 (d := d_DeedReading_take_put) rfl
theorem bd_DeedReading_take_put : Bd ("take_put" : Str) ("DeedReading.take_put" : Str) (defArgs s_DeedReading_take_put) (defBody s_DeedReading_take_put) (defScope s_DeedReading_take_put) p_DeedReading_take_put := fun kV doc pm an cdv ct us hl => match us, hl with
  | [_, _], _ => rfl
theorem sc_DeedReading_take_put : FnScope n_DeedReading_take_put p_DeedReading_take_put (defScope s_DeedReading_take_put) := ⟨rfl, rfl, rfl, by decide +kernel, rfl, by decide +kernel, by decide +kernel⟩
theorem ch_DeedReading_take_put : chkSs gs ⟨n_DeedReading_take_put, defScope s_DeedReading_take_put, true, false⟩ b_DeedReading_take_put (defBody s_DeedReading_take_put) = true := by decide +kernel
theorem ok_DeedReading_take_put (S : Sy K w h) (hG : ∀ j, k = j + 1 → Gd (gm P K w mg base) j gs) : ∃ fd, FnGood (gm P K w mg base) k 16 fd p_DeedReading_take_put := by
  obtain ⟨fd, F⟩ := fd_DeedReading_take_put (P := P) (mg := mg) (base := base) S
  exact ⟨fd, good_all (M := gm P K w mg base) F bd_DeedReading_take_put sc_DeedReading_take_put rfl rfl rfl ch_DeedReading_take_put hG⟩
theorem fd_DeedReading_take (S : Sy K w h) : ∃ fd, FunD K ("take" : Str) ("DeedReading.take" : Str) (defArgs s_DeedReading_take) (defBody s_DeedReading_take) (defScope s_DeedReading_take) [] [] ((gm P K w mg base).fa 17) fd := S.t.d.def_ 17 (d := d_DeedReading_take) rfl
theorem bd_DeedReading_take : Bd ("take" : Str) ("DeedReading.take" : Str) (defArgs s_DeedReading_take) (defBody s_DeedReading_take) (defScope s_DeedReading_take) p_DeedReading_take := fun kV doc pm an cdv ct us hl => match us, hl with
  | [_, _], _ => rfl
theorem sc_DeedReading_take : FnScope n_DeedReading_take p_DeedReading_take (defScope s_DeedReading_take) := ⟨rfl, rfl, rfl, by decide +kernel, rfl, by decide +kernel, by decide +kernel⟩
theorem ch_DeedReading_take : chkSs gs ⟨n_DeedReading_take, defScope s_DeedReading_take, true, false⟩ b_DeedReading_take (defBody s_DeedReading_take) = true := by decide +kernel
theorem ok_DeedReading_take (S : Sy K w h) (hG : ∀ j, k = j + 1 → Gd (gm P K w mg base) j gs) : ∃ fd, FnGood (gm P K w mg base) k 17 fd p_DeedReading_take := by
  obtain ⟨fd, F⟩ := fd_DeedReading_take (P := P) (mg := mg) (base := base) S
  exact ⟨fd, good_all (M := gm P K w mg base) F bd_DeedReading_take sc_DeedReading_take rfl rfl rfl ch_DeedReading_take hG⟩
theorem fd_lines_read (S : Sy K w h) : ∃ fd, FunD K ("lines_read" : Str) ("lines_read" : Str) (defArgs s_lines_read) (defBody s_lines_read) (defScope s_lines_read) [] [] ((gm P K w mg base).fa 18) fd := S.t.d.def_ 18 (d := d_lines_read) rfl
theorem bd_lines_read : Bd ("lines_read" : Str) ("lines_read" : Str) (defArgs s_lines_read) (defBody s_lines_read) (defScope s_lines_read) p_lines_read := fun kV doc pm an cdv ct us hl => match us, hl with
  | [_], _ => rfl
theorem sc_lines_read : FnScope n_lines_read p_lines_read (defScope s_lines_read) := ⟨rfl, rfl, rfl, by decide +kernel, rfl, by decide +kernel, by decide +kernel⟩
theorem ch_lines_read : chkSs gs ⟨n_lines_read, defScope s_lines_read, true, false⟩ b_lines_read (defBody s_lines_read) = true := by decide +kernel
theorem ok_lines_read (S : Sy K w h) (hG : ∀ j, k = j + 1 → Gd (gm P K w mg base) j gs) : ∃ fd, FnGood (gm P K w mg base) k 18 fd p_lines_read := by
  obtain ⟨fd, F⟩ := fd_lines_read (P := P) (mg := mg) (base := base) S
  exact ⟨fd, good_all (M := gm P K w mg base) F bd_lines_read sc_lines_read rfl rfl rfl ch_lines_read hG⟩
theorem okk_lines_read (S : Sy K w h) (hG : ∀ j, k = j + 1 → Gd (gm P K w mg base) j gs) : ∃ fd, FnGood (gm P K w mg base) k 18 fd p_lines_read ∧ KBn K fd p_lines_read 0 [("text" : Str)] (fun _ ws => ws) (fun _ zs => zs) := by
  obtain ⟨fd, F⟩ := fd_lines_read (P := P) (mg := mg) (base := base) S
  exact ⟨fd, good_all (M := gm P K w mg base) F bd_lines_read sc_lines_read rfl rfl rfl ch_lines_read hG, kb_of F fun kV doc pm an cdv ct w => rfl⟩
theorem fd_deeds_fault (S : Sy K w h) : ∃ fd, FunD K ("deeds_fault" : Str) ("deeds_fault" : Str) (defArgs s_deeds_fault) (defBody s_deeds_fault) (defScope s_deeds_fault) [] [] ((gm P K w mg base).fa 19) fd := S.t.d.def_ 19 (d := d_deeds_fault) rfl
theorem bd_deeds_fault : Bd ("deeds_fault" : Str) ("deeds_fault" : Str) (defArgs s_deeds_fault) (defBody s_deeds_fault) (defScope s_deeds_fault) p_deeds_fault := fun kV doc pm an cdv ct us hl => match us, hl with
  | [_], _ => rfl
theorem sc_deeds_fault : FnScope n_deeds_fault p_deeds_fault (defScope s_deeds_fault) := ⟨rfl, rfl, rfl, by decide +kernel, rfl, by decide +kernel, by decide +kernel⟩
theorem ch_deeds_fault : chkSs gs ⟨n_deeds_fault, defScope s_deeds_fault, true, false⟩ b_deeds_fault (defBody s_deeds_fault) = true := by decide +kernel
theorem ok_deeds_fault (S : Sy K w h) (hG : ∀ j, k = j + 1 → Gd (gm P K w mg base) j gs) : ∃ fd, FnGood (gm P K w mg base) k 19 fd p_deeds_fault := by
  obtain ⟨fd, F⟩ := fd_deeds_fault (P := P) (mg := mg) (base := base) S
  exact ⟨fd, good_all (M := gm P K w mg base) F bd_deeds_fault sc_deeds_fault rfl rfl rfl ch_deeds_fault hG⟩
theorem okk_deeds_fault (S : Sy K w h) (hG : ∀ j, k = j + 1 → Gd (gm P K w mg base) j gs) : ∃ fd, FnGood (gm P K w mg base) k 19 fd p_deeds_fault ∧ KBn K fd p_deeds_fault 0 [("text" : Str)] (fun _ ws => ws) (fun _ zs => zs) := by
  obtain ⟨fd, F⟩ := fd_deeds_fault (P := P) (mg := mg) (base := base) S
  exact ⟨fd, good_all (M := gm P K w mg base) F bd_deeds_fault sc_deeds_fault rfl rfl rfl ch_deeds_fault hG, kb_of F fun kV doc pm an cdv ct w => rfl⟩
theorem fd_read_deeds (S : Sy K w h) : ∃ fd, FunD K ("read_deeds" : Str) ("read_deeds" : Str) (defArgs s_read_deeds) (defBody s_read_deeds) (defScope s_read_deeds) [] [] ((gm P K w mg base).fa 20) fd := S.t.d.def_ 20 (d := d_read_deeds) rfl
theorem bd_read_deeds : Bd ("read_deeds" : Str) ("read_deeds" : Str) (defArgs s_read_deeds) (defBody s_read_deeds) (defScope s_read_deeds) p_read_deeds := fun kV doc pm an cdv ct us hl => match us, hl with
  | [_], _ => rfl
theorem sc_read_deeds : FnScope n_read_deeds p_read_deeds (defScope s_read_deeds) := ⟨rfl, rfl, rfl, by decide +kernel, rfl, by decide +kernel, by decide +kernel⟩
theorem ch_read_deeds : chkSs gs ⟨n_read_deeds, defScope s_read_deeds, true, false⟩ b_read_deeds (defBody s_read_deeds) = true := by decide +kernel
theorem ok_read_deeds (S : Sy K w h) (hG : ∀ j, k = j + 1 → Gd (gm P K w mg base) j gs) : ∃ fd, FnGood (gm P K w mg base) k 20 fd p_read_deeds := by
  obtain ⟨fd, F⟩ := fd_read_deeds (P := P) (mg := mg) (base := base) S
  exact ⟨fd, good_all (M := gm P K w mg base) F bd_read_deeds sc_read_deeds rfl rfl rfl ch_read_deeds hG⟩
theorem okk_read_deeds (S : Sy K w h) (hG : ∀ j, k = j + 1 → Gd (gm P K w mg base) j gs) : ∃ fd, FnGood (gm P K w mg base) k 20 fd p_read_deeds ∧ KBn K fd p_read_deeds 0 [("text" : Str)] (fun _ ws => ws) (fun _ zs => zs) := by
  obtain ⟨fd, F⟩ := fd_read_deeds (P := P) (mg := mg) (base := base) S
  exact ⟨fd, good_all (M := gm P K w mg base) F bd_read_deeds sc_read_deeds rfl rfl rfl ch_read_deeds hG, kb_of F fun kV doc pm an cdv ct w => rfl⟩
theorem fd__law_mbent (S : Sy K w h) : ∃ fd, FunD K ("_law_mbent" : Str) ("_law_mbent" : Str) (defArgs s__law_mbent) (defBody s__law_mbent) (defScope s__law_mbent) [] [] ((gm P K w mg base).fa 21) fd := S.t.d.def_ 21 (d := d__law_mbent) rfl
theorem bd__law_mbent : Bd ("_law_mbent" : Str) ("_law_mbent" : Str) (defArgs s__law_mbent) (defBody s__law_mbent) (defScope s__law_mbent) p__law_mbent := fun kV doc pm an cdv ct us hl => match us, hl with
  | [_, _, _], _ => rfl
theorem sc__law_mbent : FnScope n__law_mbent p__law_mbent (defScope s__law_mbent) := ⟨rfl, rfl, rfl, by decide +kernel, rfl, by decide +kernel, by decide +kernel⟩
theorem ch__law_mbent : chkSs gs ⟨n__law_mbent, defScope s__law_mbent, true, false⟩ b__law_mbent (defBody s__law_mbent) = true := by decide +kernel
theorem ok__law_mbent (S : Sy K w h) (hG : ∀ j, k = j + 1 → Gd (gm P K w mg base) j gs) : ∃ fd, FnGood (gm P K w mg base) k 21 fd p__law_mbent := by
  obtain ⟨fd, F⟩ := fd__law_mbent (P := P) (mg := mg) (base := base) S
  exact ⟨fd, good_all (M := gm P K w mg base) F bd__law_mbent sc__law_mbent rfl rfl rfl ch__law_mbent hG⟩
theorem fd__law_mtext (S : Sy K w h) : ∃ fd, FunD K ("_law_mtext" : Str) ("_law_mtext" : Str) (defArgs s__law_mtext) (defBody s__law_mtext) (defScope s__law_mtext) [] [] ((gm P K w mg base).fa 22) fd := S.t.d.def_ 22 (d := d__law_mtext) rfl
theorem bd__law_mtext : Bd ("_law_mtext" : Str) ("_law_mtext" : Str) (defArgs s__law_mtext) (defBody s__law_mtext) (defScope s__law_mtext) p__law_mtext := fun kV doc pm an cdv ct us hl => match us, hl with
  | [_], _ => rfl
theorem sc__law_mtext : FnScope n__law_mtext p__law_mtext (defScope s__law_mtext) := ⟨rfl, rfl, rfl, by decide +kernel, rfl, by decide +kernel, by decide +kernel⟩
theorem ch__law_mtext : chkSs gs ⟨n__law_mtext, defScope s__law_mtext, true, false⟩ b__law_mtext (defBody s__law_mtext) = true := by decide +kernel
theorem ok__law_mtext (S : Sy K w h) (hG : ∀ j, k = j + 1 → Gd (gm P K w mg base) j gs) : ∃ fd, FnGood (gm P K w mg base) k 22 fd p__law_mtext := by
  obtain ⟨fd, F⟩ := fd__law_mtext (P := P) (mg := mg) (base := base) S
  exact ⟨fd, good_all (M := gm P K w mg base) F bd__law_mtext sc__law_mtext rfl rfl rfl ch__law_mtext hG⟩
theorem okk__law_mtext (S : Sy K w h) (hG : ∀ j, k = j + 1 → Gd (gm P K w mg base) j gs) : ∃ fd, FnGood (gm P K w mg base) k 22 fd p__law_mtext ∧ KBn K fd p__law_mtext 0 [("lines" : Str)] (fun _ ws => ws) (fun _ zs => zs) := by
  obtain ⟨fd, F⟩ := fd__law_mtext (P := P) (mg := mg) (base := base) S
  exact ⟨fd, good_all (M := gm P K w mg base) F bd__law_mtext sc__law_mtext rfl rfl rfl ch__law_mtext hG, kb_of F fun kV doc pm an cdv ct w => rfl⟩
theorem fd__law_start (S : Sy K w h) : ∃ fd, FunD K ("_law_start" : Str) ("_law_start" : Str) (defArgs s__law_start) (defBody s__law_start) (defScope s__law_start) [] [] ((gm P K w mg base).fa 23) fd := S.t.d.def_ 23 (d := d__law_start) rfl
theorem bd__law_start : Bd ("_law_start" : Str) ("_law_start" : Str) (defArgs s__law_start) (defBody s__law_start) (defScope s__law_start) p__law_start := fun kV doc pm an cdv ct us hl => match us, hl with
  | [_], _ => rfl
theorem sc__law_start : FnScope n__law_start p__law_start (defScope s__law_start) := ⟨rfl, rfl, rfl, by decide +kernel, rfl, by decide +kernel, by decide +kernel⟩
theorem ch__law_start : chkSs gs ⟨n__law_start, defScope s__law_start, true, false⟩ b__law_start (defBody s__law_start) = true := by decide +kernel
theorem ok__law_start (S : Sy K w h) (hG : ∀ j, k = j + 1 → Gd (gm P K w mg base) j gs) : ∃ fd, FnGood (gm P K w mg base) k 23 fd p__law_start := by
  obtain ⟨fd, F⟩ := fd__law_start (P := P) (mg := mg) (base := base) S
  exact ⟨fd, good_all (M := gm P K w mg base) F bd__law_start sc__law_start rfl rfl rfl ch__law_start hG⟩
theorem okk__law_start (S : Sy K w h) (hG : ∀ j, k = j + 1 → Gd (gm P K w mg base) j gs) : ∃ fd, FnGood (gm P K w mg base) k 23 fd p__law_start ∧ KBn K fd p__law_start 0 [("script" : Str)] (fun _ ws => ws) (fun _ zs => zs) := by
  obtain ⟨fd, F⟩ := fd__law_start (P := P) (mg := mg) (base := base) S
  exact ⟨fd, good_all (M := gm P K w mg base) F bd__law_start sc__law_start rfl rfl rfl ch__law_start hG, kb_of F fun kV doc pm an cdv ct w => rfl⟩
theorem fd__law_below (S : Sy K w h) : ∃ fd, FunD K ("_law_below" : Str) ("_law_below" : Str) (defArgs s__law_below) (defBody s__law_below) (defScope s__law_below) [] [] ((gm P K w mg base).fa 24) fd := S.t.d.def_ 24 (d := d__law_below) rfl
theorem bd__law_below : Bd ("_law_below" : Str) ("_law_below" : Str) (defArgs s__law_below) (defBody s__law_below) (defScope s__law_below) p__law_below := fun kV doc pm an cdv ct us hl => match us, hl with
  | [_, _], _ => rfl
theorem sc__law_below : FnScope n__law_below p__law_below (defScope s__law_below) := ⟨rfl, rfl, rfl, by decide +kernel, rfl, by decide +kernel, by decide +kernel⟩
theorem ch__law_below : chkSs gs ⟨n__law_below, defScope s__law_below, true, false⟩ b__law_below (defBody s__law_below) = true := by decide +kernel
theorem ok__law_below (S : Sy K w h) (hG : ∀ j, k = j + 1 → Gd (gm P K w mg base) j gs) : ∃ fd, FnGood (gm P K w mg base) k 24 fd p__law_below := by
  obtain ⟨fd, F⟩ := fd__law_below (P := P) (mg := mg) (base := base) S
  exact ⟨fd, good_all (M := gm P K w mg base) F bd__law_below sc__law_below rfl rfl rfl ch__law_below hG⟩
theorem fd__law_pick (S : Sy K w h) : ∃ fd, FunD K ("_law_pick" : Str) ("_law_pick" : Str) (defArgs s__law_pick) (defBody s__law_pick) (defScope s__law_pick) [] [] ((gm P K w mg base).fa 25) fd := S.t.d.def_ 25 (d := d__law_pick) rfl
theorem bd__law_pick : Bd ("_law_pick" : Str) ("_law_pick" : Str) (defArgs s__law_pick) (defBody s__law_pick) (defScope s__law_pick) p__law_pick := fun kV doc pm an cdv ct us hl => match us, hl with
  | [_, _], _ => rfl
theorem sc__law_pick : FnScope n__law_pick p__law_pick (defScope s__law_pick) := ⟨rfl, rfl, rfl, by decide +kernel, rfl, by decide +kernel, by decide +kernel⟩
theorem ch__law_pick : chkSs gs ⟨n__law_pick, defScope s__law_pick, true, false⟩ b__law_pick (defBody s__law_pick) = true := by decide +kernel
theorem ok__law_pick (S : Sy K w h) (hG : ∀ j, k = j + 1 → Gd (gm P K w mg base) j gs) : ∃ fd, FnGood (gm P K w mg base) k 25 fd p__law_pick := by
  obtain ⟨fd, F⟩ := fd__law_pick (P := P) (mg := mg) (base := base) S
  exact ⟨fd, good_all (M := gm P K w mg base) F bd__law_pick sc__law_pick rfl rfl rfl ch__law_pick hG⟩
theorem fd__law_copied (S : Sy K w h) : ∃ fd, FunD K ("_law_copied" : Str) ("_law_copied" : Str) (defArgs s__law_copied) (defBody s__law_copied) (defScope s__law_copied) [] [] ((gm P K w mg base).fa 26) fd := S.t.d.def_ 26 (d := d__law_copied) rfl
theorem bd__law_copied : Bd ("_law_copied" : Str) ("_law_copied" : Str) (defArgs s__law_copied) (defBody s__law_copied) (defScope s__law_copied) p__law_copied := fun kV doc pm an cdv ct us hl => match us, hl with
  | [_], _ => rfl
theorem sc__law_copied : FnScope n__law_copied p__law_copied (defScope s__law_copied) := ⟨rfl, rfl, rfl, by decide +kernel, rfl, by decide +kernel, by decide +kernel⟩
theorem ch__law_copied : chkSs gs ⟨n__law_copied, defScope s__law_copied, true, false⟩ b__law_copied (defBody s__law_copied) = true := by decide +kernel
theorem ok__law_copied (S : Sy K w h) (hG : ∀ j, k = j + 1 → Gd (gm P K w mg base) j gs) : ∃ fd, FnGood (gm P K w mg base) k 26 fd p__law_copied := by
  obtain ⟨fd, F⟩ := fd__law_copied (P := P) (mg := mg) (base := base) S
  exact ⟨fd, good_all (M := gm P K w mg base) F bd__law_copied sc__law_copied rfl rfl rfl ch__law_copied hG⟩
theorem okk__law_copied (S : Sy K w h) (hG : ∀ j, k = j + 1 → Gd (gm P K w mg base) j gs) : ∃ fd, FnGood (gm P K w mg base) k 26 fd p__law_copied ∧ KBn K fd p__law_copied 0 [("thing" : Str)] (fun _ ws => ws) (fun _ zs => zs) := by
  obtain ⟨fd, F⟩ := fd__law_copied (P := P) (mg := mg) (base := base) S
  exact ⟨fd, good_all (M := gm P K w mg base) F bd__law_copied sc__law_copied rfl rfl rfl ch__law_copied hG, kb_of F fun kV doc pm an cdv ct w => rfl⟩
theorem fd__law_same (S : Sy K w h) : ∃ fd, FunD K ("_law_same" : Str) ("_law_same" : Str) (defArgs s__law_same) (defBody s__law_same) (defScope s__law_same) [] [] ((gm P K w mg base).fa 27) fd := S.t.d.def_ 27 (d := d__law_same) rfl
theorem bd__law_same : Bd ("_law_same" : Str) ("_law_same" : Str) (defArgs s__law_same) (defBody s__law_same) (defScope s__law_same) p__law_same := fun kV doc pm an cdv ct us hl => match us, hl with
  | [_, _], _ => rfl
theorem sc__law_same : FnScope n__law_same p__law_same (defScope s__law_same) := ⟨rfl, rfl, rfl, by decide +kernel, rfl, by decide +kernel, by decide +kernel⟩
theorem ch__law_same : chkSs gs ⟨n__law_same, defScope s__law_same, true, false⟩ b__law_same (defBody s__law_same) = true := by decide +kernel
theorem ok__law_same (S : Sy K w h) (hG : ∀ j, k = j + 1 → Gd (gm P K w mg base) j gs) : ∃ fd, FnGood (gm P K w mg base) k 27 fd p__law_same := by
  obtain ⟨fd, F⟩ := fd__law_same (P := P) (mg := mg) (base := base) S
  exact ⟨fd, good_all (M := gm P K w mg base) F bd__law_same sc__law_same rfl rfl rfl ch__law_same hG⟩
theorem fd__law_mthing (S : Sy K w h) : ∃ fd, FunD K ("_law_mthing" : Str) ("_law_mthing" : Str) (defArgs s__law_mthing) (defBody s__law_mthing) (defScope s__law_mthing) [] [] ((gm P K w mg base).fa 28) fd := S.t.d.def_ 28 (d := d__law_mthing) rfl
theorem bd__law_mthing : Bd ("_law_mthing" : Str) ("_law_mthing" : Str) (defArgs s__law_mthing) (defBody s__law_mthing) (defScope s__law_mthing) p__law_mthing := fun kV doc pm an cdv ct us hl => match us, hl with
  | [_, _], _ => rfl
theorem sc__law_mthing : FnScope n__law_mthing p__law_mthing (defScope s__law_mthing) := ⟨rfl, rfl, rfl, by decide +kernel, rfl, by decide +kernel, by decide +kernel⟩
theorem ch__law_mthing : chkSs gs ⟨n__law_mthing, defScope s__law_mthing, true, false⟩ b__law_mthing (defBody s__law_mthing) = true := by decide +kernel
theorem ok__law_mthing (S : Sy K w h) (hG : ∀ j, k = j + 1 → Gd (gm P K w mg base) j gs) : ∃ fd, FnGood (gm P K w mg base) k 28 fd p__law_mthing := by
  obtain ⟨fd, F⟩ := fd__law_mthing (P := P) (mg := mg) (base := base) S
  exact ⟨fd, good_all (M := gm P K w mg base) F bd__law_mthing sc__law_mthing rfl rfl rfl ch__law_mthing hG⟩
theorem fd__law_mflat (S : Sy K w h) : ∃ fd, FunD K ("_law_mflat" : Str) ("_law_mflat" : Str) (defArgs s__law_mflat) (defBody s__law_mflat) (defScope s__law_mflat) [] [] ((gm P K w mg base).fa 29) fd := S.t.d.def_ 29 (d := d__law_mflat) rfl
theorem bd__law_mflat : Bd ("_law_mflat" : Str) ("_law_mflat" : Str) (defArgs s__law_mflat) (defBody s__law_mflat) (defScope s__law_mflat) p__law_mflat := fun kV doc pm an cdv ct us hl => match us, hl with
  | [_], _ => rfl
theorem sc__law_mflat : FnScope n__law_mflat p__law_mflat (defScope s__law_mflat) := ⟨rfl, rfl, rfl, by decide +kernel, rfl, by decide +kernel, by decide +kernel⟩
theorem ch__law_mflat : chkSs gs ⟨n__law_mflat, defScope s__law_mflat, true, false⟩ b__law_mflat (defBody s__law_mflat) = true := by decide +kernel
theorem ok__law_mflat (S : Sy K w h) (hG : ∀ j, k = j + 1 → Gd (gm P K w mg base) j gs) : ∃ fd, FnGood (gm P K w mg base) k 29 fd p__law_mflat := by
  obtain ⟨fd, F⟩ := fd__law_mflat (P := P) (mg := mg) (base := base) S
  exact ⟨fd, good_all (M := gm P K w mg base) F bd__law_mflat sc__law_mflat rfl rfl rfl ch__law_mflat hG⟩
theorem okk__law_mflat (S : Sy K w h) (hG : ∀ j, k = j + 1 → Gd (gm P K w mg base) j gs) : ∃ fd, FnGood (gm P K w mg base) k 29 fd p__law_mflat ∧ KBn K fd p__law_mflat 0 [("thing" : Str)] (fun _ ws => ws) (fun _ zs => zs) := by
  obtain ⟨fd, F⟩ := fd__law_mflat (P := P) (mg := mg) (base := base) S
  exact ⟨fd, good_all (M := gm P K w mg base) F bd__law_mflat sc__law_mflat rfl rfl rfl ch__law_mflat hG, kb_of F fun kV doc pm an cdv ct w => rfl⟩
theorem fd__law_mflat_read (S : Sy K w h) : ∃ fd, FunD K ("_law_mflat_read" : Str) ("_law_mflat_read" : Str) (defArgs s__law_mflat_read) (defBody s__law_mflat_read) (defScope s__law_mflat_read) [] [] ((gm P K w mg base).fa 30) fd := S.t.d.def_ 30 (d := d__law_mflat_read) rfl
theorem bd__law_mflat_read : Bd ("_law_mflat_read" : Str) ("_law_mflat_read" : Str) (defArgs s__law_mflat_read) (defBody s__law_mflat_read) (defScope s__law_mflat_read) p__law_mflat_read := fun kV doc pm an cdv ct us hl => match us, hl with
  | [_, _, _], _ => rfl
theorem sc__law_mflat_read : FnScope n__law_mflat_read p__law_mflat_read (defScope s__law_mflat_read) := ⟨rfl, rfl, rfl, by decide +kernel, rfl, by decide +kernel, by decide +kernel⟩
theorem ch__law_mflat_read : chkSs gs ⟨n__law_mflat_read, defScope s__law_mflat_read, true, false⟩ b__law_mflat_read (defBody s__law_mflat_read) = true := by decide +kernel
theorem ok__law_mflat_read (S : Sy K w h) (hG : ∀ j, k = j + 1 → Gd (gm P K w mg base) j gs) : ∃ fd, FnGood (gm P K w mg base) k 30 fd p__law_mflat_read := by
  obtain ⟨fd, F⟩ := fd__law_mflat_read (P := P) (mg := mg) (base := base) S
  exact ⟨fd, good_all (M := gm P K w mg base) F bd__law_mflat_read sc__law_mflat_read rfl rfl rfl ch__law_mflat_read hG⟩
theorem fd__law_mname (S : Sy K w h) : ∃ fd, FunD K ("_law_mname" : Str) ("_law_mname" : Str) (defArgs s__law_mname) (defBody s__law_mname) (defScope s__law_mname) [] [] ((gm P K w mg base).fa 31) fd := S.t.d.def_ 31 (d := d__law_mname) rfl
theorem bd__law_mname : Bd ("_law_mname" : Str) ("_law_mname" : Str) (defArgs s__law_mname) (defBody s__law_mname) (defScope s__law_mname) p__law_mname := fun kV doc pm an cdv ct us hl => match us, hl with
  | [_], _ => rfl
theorem sc__law_mname : FnScope n__law_mname p__law_mname (defScope s__law_mname) := ⟨rfl, rfl, rfl, by decide +kernel, rfl, by decide +kernel, by decide +kernel⟩
theorem ch__law_mname : chkSs gs ⟨n__law_mname, defScope s__law_mname, true, false⟩ b__law_mname (defBody s__law_mname) = true := by decide +kernel
theorem ok__law_mname (S : Sy K w h) (hG : ∀ j, k = j + 1 → Gd (gm P K w mg base) j gs) : ∃ fd, FnGood (gm P K w mg base) k 31 fd p__law_mname := by
  obtain ⟨fd, F⟩ := fd__law_mname (P := P) (mg := mg) (base := base) S
  exact ⟨fd, good_all (M := gm P K w mg base) F bd__law_mname sc__law_mname rfl rfl rfl ch__law_mname hG⟩
theorem okk__law_mname (S : Sy K w h) (hG : ∀ j, k = j + 1 → Gd (gm P K w mg base) j gs) : ∃ fd, FnGood (gm P K w mg base) k 31 fd p__law_mname ∧ KBn K fd p__law_mname 0 [("word" : Str)] (fun _ ws => ws) (fun _ zs => zs) := by
  obtain ⟨fd, F⟩ := fd__law_mname (P := P) (mg := mg) (base := base) S
  exact ⟨fd, good_all (M := gm P K w mg base) F bd__law_mname sc__law_mname rfl rfl rfl ch__law_mname hG, kb_of F fun kV doc pm an cdv ct w => rfl⟩
theorem fd__law_mcount_in (S : Sy K w h) : ∃ fd, FunD K ("_law_mcount_in" : Str) ("_law_mcount_in" : Str) (defArgs s__law_mcount_in) (defBody s__law_mcount_in) (defScope s__law_mcount_in) [] [] ((gm P K w mg base).fa 32) fd := S.t.d.def_ 32 (d := d__law_mcount_in) rfl
theorem bd__law_mcount_in : Bd ("_law_mcount_in" : Str) ("_law_mcount_in" : Str) (defArgs s__law_mcount_in) (defBody s__law_mcount_in) (defScope s__law_mcount_in) p__law_mcount_in := fun kV doc pm an cdv ct us hl => match us, hl with
  | [_], _ => rfl
theorem sc__law_mcount_in : FnScope n__law_mcount_in p__law_mcount_in (defScope s__law_mcount_in) := ⟨rfl, rfl, rfl, by decide +kernel, rfl, by decide +kernel, by decide +kernel⟩
theorem ch__law_mcount_in : chkSs gs ⟨n__law_mcount_in, defScope s__law_mcount_in, true, false⟩ b__law_mcount_in (defBody s__law_mcount_in) = true := by decide +kernel
theorem ok__law_mcount_in (S : Sy K w h) (hG : ∀ j, k = j + 1 → Gd (gm P K w mg base) j gs) : ∃ fd, FnGood (gm P K w mg base) k 32 fd p__law_mcount_in := by
  obtain ⟨fd, F⟩ := fd__law_mcount_in (P := P) (mg := mg) (base := base) S
  exact ⟨fd, good_all (M := gm P K w mg base) F bd__law_mcount_in sc__law_mcount_in rfl rfl rfl ch__law_mcount_in hG⟩
theorem okk__law_mcount_in (S : Sy K w h) (hG : ∀ j, k = j + 1 → Gd (gm P K w mg base) j gs) : ∃ fd, FnGood (gm P K w mg base) k 32 fd p__law_mcount_in ∧ KBn K fd p__law_mcount_in 0 [("word" : Str)] (fun _ ws => ws) (fun _ zs => zs) := by
  obtain ⟨fd, F⟩ := fd__law_mcount_in (P := P) (mg := mg) (base := base) S
  exact ⟨fd, good_all (M := gm P K w mg base) F bd__law_mcount_in sc__law_mcount_in rfl rfl rfl ch__law_mcount_in hG, kb_of F fun kV doc pm an cdv ct w => rfl⟩
theorem fd__law_mread_lines (S : Sy K w h) : ∃ fd, FunD K ("_law_mread_lines" : Str) ("_law_mread_lines" : Str) (defArgs s__law_mread_lines) (defBody s__law_mread_lines) (defScope s__law_mread_lines) [] [] ((gm P K w mg base).fa 33) fd := S.t.d.def_ 33 (d := d__law_mread_lines) rfl
theorem bd__law_mread_lines : Bd ("_law_mread_lines" : Str) ("_law_mread_lines" : Str) (defArgs s__law_mread_lines) (defBody s__law_mread_lines) (defScope s__law_mread_lines) p__law_mread_lines := fun kV doc pm an cdv ct us hl => match us, hl with
  | [_], _ => rfl
theorem sc__law_mread_lines : FnScope n__law_mread_lines p__law_mread_lines (defScope s__law_mread_lines) := ⟨rfl, rfl, rfl, by decide +kernel, rfl, by decide +kernel, by decide +kernel⟩
theorem ch__law_mread_lines : chkSs gs ⟨n__law_mread_lines, defScope s__law_mread_lines, true, false⟩ b__law_mread_lines (defBody s__law_mread_lines) = true := by decide +kernel
theorem ok__law_mread_lines (S : Sy K w h) (hG : ∀ j, k = j + 1 → Gd (gm P K w mg base) j gs) : ∃ fd, FnGood (gm P K w mg base) k 33 fd p__law_mread_lines := by
  obtain ⟨fd, F⟩ := fd__law_mread_lines (P := P) (mg := mg) (base := base) S
  exact ⟨fd, good_all (M := gm P K w mg base) F bd__law_mread_lines sc__law_mread_lines rfl rfl rfl ch__law_mread_lines hG⟩
theorem okk__law_mread_lines (S : Sy K w h) (hG : ∀ j, k = j + 1 → Gd (gm P K w mg base) j gs) : ∃ fd, FnGood (gm P K w mg base) k 33 fd p__law_mread_lines ∧ KBn K fd p__law_mread_lines 0 [("lines" : Str)] (fun _ ws => ws) (fun _ zs => zs) := by
  obtain ⟨fd, F⟩ := fd__law_mread_lines (P := P) (mg := mg) (base := base) S
  exact ⟨fd, good_all (M := gm P K w mg base) F bd__law_mread_lines sc__law_mread_lines rfl rfl rfl ch__law_mread_lines hG, kb_of F fun kV doc pm an cdv ct w => rfl⟩
theorem fd__law_mform (S : Sy K w h) : ∃ fd, FunD K ("_law_mform" : Str) ("_law_mform" : Str) (defArgs s__law_mform) (defBody s__law_mform) (defScope s__law_mform) [] [] ((gm P K w mg base).fa 34) fd := S.t.d.def_ 34 (d := d__law_mform) rfl
theorem bd__law_mform : Bd ("_law_mform" : Str) ("_law_mform" : Str) (defArgs s__law_mform) (defBody s__law_mform) (defScope s__law_mform) p__law_mform := fun kV doc pm an cdv ct us hl => match us, hl with
  | [_], _ => rfl
theorem sc__law_mform : FnScope n__law_mform p__law_mform (defScope s__law_mform) := ⟨rfl, rfl, rfl, by decide +kernel, rfl, by decide +kernel, by decide +kernel⟩
theorem ch__law_mform : chkSs gs ⟨n__law_mform, defScope s__law_mform, true, false⟩ b__law_mform (defBody s__law_mform) = true := by decide +kernel
theorem ok__law_mform (S : Sy K w h) (hG : ∀ j, k = j + 1 → Gd (gm P K w mg base) j gs) : ∃ fd, FnGood (gm P K w mg base) k 34 fd p__law_mform := by
  obtain ⟨fd, F⟩ := fd__law_mform (P := P) (mg := mg) (base := base) S
  exact ⟨fd, good_all (M := gm P K w mg base) F bd__law_mform sc__law_mform rfl rfl rfl ch__law_mform hG⟩
theorem okk__law_mform (S : Sy K w h) (hG : ∀ j, k = j + 1 → Gd (gm P K w mg base) j gs) : ∃ fd, FnGood (gm P K w mg base) k 34 fd p__law_mform ∧ KBn K fd p__law_mform 0 [("stream" : Str)] (fun _ ws => ws) (fun _ zs => zs) := by
  obtain ⟨fd, F⟩ := fd__law_mform (P := P) (mg := mg) (base := base) S
  exact ⟨fd, good_all (M := gm P K w mg base) F bd__law_mform sc__law_mform rfl rfl rfl ch__law_mform hG, kb_of F fun kV doc pm an cdv ct w => rfl⟩
theorem fd__law_mword (S : Sy K w h) : ∃ fd, FunD K ("_law_mword" : Str) ("_law_mword" : Str) (defArgs s__law_mword) (defBody s__law_mword) (defScope s__law_mword) [] [] ((gm P K w mg base).fa 35) fd := S.t.d.def_ 35 (d := d__law_mword) rfl
theorem bd__law_mword : Bd ("_law_mword" : Str) ("_law_mword" : Str) (defArgs s__law_mword) (defBody s__law_mword) (defScope s__law_mword) p__law_mword := fun kV doc pm an cdv ct us hl => match us, hl with
  | [_], _ => rfl
theorem sc__law_mword : FnScope n__law_mword p__law_mword (defScope s__law_mword) := ⟨rfl, rfl, rfl, by decide +kernel, rfl, by decide +kernel, by decide +kernel⟩
theorem fd_law (S : Sy K w h) : ∃ fd, FunD K ("law" : Str) ("law" : Str) (defArgs s_law) (defBody s_law) (defScope s_law) [] [] ((gm P K w mg base).fa 36) fd := S.t.d.def_ 36 (d := d_law) rfl
theorem bd_law : Bd ("law" : Str) ("law" : Str) (defArgs s_law) (defBody s_law) (defScope s_law) p_law := fun kV doc pm an cdv ct us hl => match us, hl with
  | [_], _ => rfl
theorem sc_law : FnScope n_law p_law (defScope s_law) := ⟨rfl, rfl, rfl, by decide +kernel, rfl, by decide +kernel, by decide +kernel⟩
theorem er_BadDeed (S : Sy K w h) (X : K.In h) (G : h.Ns mainGlobals mg) : ErrGood (gm P K w mg base) 0 ("BadDeed" : Str) ("index" : Str) := by
  obtain ⟨fd, F⟩ := S.t.d.def_ 37 (d := d_eBadDeed) rfl
  have e := S.more
  unfold ex at e
  simp only [Bool.and_eq_true, decide_eq_true_eq] at e
  obtain ⟨⟨⟨⟨⟨⟨⟨⟨⟨⟨⟨⟨⟨⟨⟨⟨⟨⟨a0, a1⟩, a2⟩, a3⟩, a4⟩, a5⟩, a6⟩, a7⟩, a8⟩, a9⟩, a10⟩, a11⟩, a12⟩, a13⟩, a14⟩, a15⟩, a16⟩, a17⟩, a18⟩ := e
  exact err_of (oexB_ok a9) rfl a11 a12 a13 (He.glo_ok X G (S.t.d.fact 56 (f := .glo ("BadDeed" : Str)) rfl)) F (fun kV doc pm an cdv ct us hl => match us, hl with | [_, _], _ => rfl) ⟨rfl, rfl, rfl, by decide +kernel, rfl, by decide +kernel, by decide +kernel⟩ rfl rfl rfl (by decide) (by decide)
theorem er_BadLine (S : Sy K w h) (X : K.In h) (G : h.Ns mainGlobals mg) : ErrGood (gm P K w mg base) 1 ("BadLine" : Str) ("line" : Str) := by
  obtain ⟨fd, F⟩ := S.t.d.def_ 38 (d := d_eBadLine) rfl
  have e := S.more
  unfold ex at e
  simp only [Bool.and_eq_true, decide_eq_true_eq] at e
  obtain ⟨⟨⟨⟨⟨⟨⟨⟨⟨⟨⟨⟨⟨⟨⟨⟨⟨⟨a0, a1⟩, a2⟩, a3⟩, a4⟩, a5⟩, a6⟩, a7⟩, a8⟩, a9⟩, a10⟩, a11⟩, a12⟩, a13⟩, a14⟩, a15⟩, a16⟩, a17⟩, a18⟩ := e
  exact err_of (oexB_ok a14) rfl a16 a17 a18 (He.glo_ok X G (S.t.d.fact 57 (f := .glo ("BadLine" : Str)) rfl)) F (fun kV doc pm an cdv ct us hl => match us, hl with | [_, _], _ => rfl) ⟨rfl, rfl, rfl, by decide +kernel, rfl, by decide +kernel, by decide +kernel⟩ rfl rfl rfl (by decide) (by decide)
theorem gl_ok (S : Sy K w h) (X : K.In h) (G : h.Ns mainGlobals mg) : ∀ (i : Nat) (x : Str), gs.glN[i]? = some x → ∃ d v u, pg.gl[i]? = some d ∧ mg x = some u ∧ RelV v u ∧ ∀ wd St, wd.ok (ks K w) St → RV (ks K w) wd d v := by
  have e := S.more
  unfold ex at e
  simp only [Bool.and_eq_true, decide_eq_true_eq] at e
  obtain ⟨⟨⟨⟨⟨⟨⟨⟨⟨⟨⟨⟨⟨⟨⟨⟨⟨⟨a0, a1⟩, a2⟩, a3⟩, a4⟩, a5⟩, a6⟩, a7⟩, a8⟩, a9⟩, a10⟩, a11⟩, a12⟩, a13⟩, a14⟩, a15⟩, a16⟩, a17⟩, a18⟩ := e
  intro i x hx
  match i, hx with
  | 0, hx =>
    have hx : ("LETTERS" : Str) = x := Option.some.inj hx
    subst hx
    obtain ⟨v, u, h1, h2, h3⟩ := gvB_ok (W := w) X G a0 (fun kvs z => by cases z)
    exact ⟨_, v, u, rfl, h1, h2, fun wd St _ => h3⟩
  | 1, hx =>
    have hx : ("FIGURES" : Str) = x := Option.some.inj hx
    subst hx
    obtain ⟨v, u, h1, h2, h3⟩ := gvB_ok (W := w) X G a1 (fun kvs z => by cases z)
    exact ⟨_, v, u, rfl, h1, h2, fun wd St _ => h3⟩
  | 2, hx =>
    have hx : ("SIGNS" : Str) = x := Option.some.inj hx
    subst hx
    obtain ⟨v, u, h1, h2, h3⟩ := gvB_ok (W := w) X G a2 (fun kvs z => by cases z)
    exact ⟨_, v, u, rfl, h1, h2, fun wd St _ => h3⟩
  | 3, hx =>
    have hx : ("KEYS" : Str) = x := Option.some.inj hx
    subst hx
    obtain ⟨v, u, h1, h2, h3⟩ := gvB_ok (W := w) X G a3 (fun kvs z => by cases z)
    exact ⟨_, v, u, rfl, h1, h2, fun wd St _ => h3⟩
  | 4, hx =>
    have hx : ("SIZES" : Str) = x := Option.some.inj hx
    subst hx
    obtain ⟨v, u, h1, h2, h3⟩ := gvB_ok (W := w) X G a4 (fun kvs _ => S.t.tab 0 rfl)
    exact ⟨_, v, u, rfl, h1, h2, fun wd St _ => h3⟩
  | 5, hx =>
    have hx : ("LONG" : Str) = x := Option.some.inj hx
    subst hx
    obtain ⟨v, u, h1, h2, h3⟩ := gvB_ok (W := w) X G a5 (fun kvs z => by cases z)
    exact ⟨_, v, u, rfl, h1, h2, fun wd St _ => h3⟩
  | 6, hx =>
    have hx : ("MARK" : Str) = x := Option.some.inj hx
    subst hx
    obtain ⟨v, u, h1, h2, h3⟩ := gvB_ok (W := w) X G a6 (fun kvs z => by cases z)
    exact ⟨_, v, u, rfl, h1, h2, fun wd St _ => h3⟩
  | 7, hx =>
    have hx : ("DEEP" : Str) = x := Option.some.inj hx
    subst hx
    obtain ⟨v, u, h1, h2, h3⟩ := gvB_ok (W := w) X G a7 (fun kvs z => by cases z)
    exact ⟨_, v, u, rfl, h1, h2, fun wd St _ => h3⟩
  | 8, hx =>
    have hx : ("PLACES" : Str) = x := Option.some.inj hx
    subst hx
    obtain ⟨v, u, h1, h2, h3⟩ := gvB_ok (W := w) X G a8 (fun kvs z => by cases z)
    exact ⟨_, v, u, rfl, h1, h2, fun wd St _ => h3⟩
  | n + 9, hx => cases hx
theorem mw_ok (S : Sy K w h) (X : K.In h) (G : h.Ns mainGlobals mg) : MwGood (gm P K w mg base) gs.mw gs.mwW gs.mwH := by
  obtain ⟨fd, F⟩ := fd__law_mword (P := P) (mg := mg) (base := base) S
  have e := S.more
  unfold ex at e
  simp only [Bool.and_eq_true, decide_eq_true_eq] at e
  obtain ⟨⟨⟨⟨⟨⟨⟨⟨⟨⟨⟨⟨⟨⟨⟨⟨⟨⟨a0, a1⟩, a2⟩, a3⟩, a4⟩, a5⟩, a6⟩, a7⟩, a8⟩, a9⟩, a10⟩, a11⟩, a12⟩, a13⟩, a14⟩, a15⟩, a16⟩, a17⟩, a18⟩ := e
  refine mw_of (M := gm P K w mg base) (a := ("call" : Str)) (e := ("e" : Str)) (l := [⟨He.ga K ("BadLine" : Str), ("line" : Str), ("line" : Str), ("BadLine" : Str)⟩, ⟨He.ga K ("BadDeed" : Str), ("deed" : Str), ("index" : Str), ("BadDeed" : Str)⟩]) F (He.glo_ok X G (S.t.d.fact 43 (f := .glo ("_law_mword" : Str)) rfl)) bd__law_mword sc__law_mword rfl rfl rfl rfl (by decide) (by decide) (by decide) (by decide) rfl ?_ (fun f => rfl) ?_
  · exact ⟨rfl, rfl, rfl, rfl, rfl, rfl, by decide, He.glo_ok X G (S.t.d.fact 57 (f := .glo ("BadLine" : Str)) rfl), xfB_ok a15, a18, rfl, rfl, rfl, rfl, rfl, rfl, by decide, He.glo_ok X G (S.t.d.fact 56 (f := .glo ("BadDeed" : Str)) rfl), xfB_ok a10, a13, trivial⟩
  · intro Q c w' f dd fs v H hl hf hd hv hq
    match c, hl, hf with
    | 0, hl, hf =>
      have hf : ("index" : Str) = f := Option.some.inj hf
      have hl : [100, 101, 101, 100] = w' := Option.some.inj hl
      subst hf hl
      exact told_miss (He.exm_ok (S.t.d.fact 59 (f := .exm ("BadDeed" : Str) ("BadLine" : Str) false) rfl)) (told_hit (He.exm_ok (S.t.d.fact 58 (f := .exm ("BadDeed" : Str) ("BadDeed" : Str) true) rfl)) hd hv hq)
    | 1, hl, hf =>
      have hf : ("line" : Str) = f := Option.some.inj hf
      have hl : [108, 105, 110, 101] = w' := Option.some.inj hl
      subst hf hl
      exact told_hit (He.exm_ok (S.t.d.fact 61 (f := .exm ("BadLine" : Str) ("BadLine" : Str) true) rfl)) hd hv hq
    | n + 2, hl, hf => cases hf
theorem free_all (S : Sy K w h) (X : K.In h) (G : h.Ns mainGlobals mg) : ∀ x ∈ freeNames, mg x = none := by
  intro x hx
  simp only [freeNames, List.mem_cons, List.not_mem_nil, or_false] at hx
  rcases hx with rfl | rfl | rfl | rfl | rfl | rfl | rfl | rfl | rfl | rfl | rfl | rfl | rfl
  · exact He.free_ok X G (S.t.d.fact 0 (f := .free ("len" : Str)) rfl)
  · exact He.free_ok X G (S.t.d.fact 1 (f := .free ("int" : Str)) rfl)
  · exact He.free_ok X G (S.t.d.fact 2 (f := .free ("str" : Str)) rfl)
  · exact He.free_ok X G (S.t.d.fact 3 (f := .free ("list" : Str)) rfl)
  · exact He.free_ok X G (S.t.d.fact 4 (f := .free ("tuple" : Str)) rfl)
  · exact He.free_ok X G (S.t.d.fact 5 (f := .free ("sum" : Str)) rfl)
  · exact He.free_ok X G (S.t.d.fact 6 (f := .free ("all" : Str)) rfl)
  · exact He.free_ok X G (S.t.d.fact 7 (f := .free ("isinstance" : Str)) rfl)
  · exact He.free_ok X G (S.t.d.fact 8 (f := .free ("range" : Str)) rfl)
  · exact He.free_ok X G (S.t.d.fact 9 (f := .free ("enumerate" : Str)) rfl)
  · exact He.free_ok X G (S.t.d.fact 10 (f := .free ("zip" : Str)) rfl)
  · exact He.free_ok X G (S.t.d.fact 11 (f := .free ("bool" : Str)) rfl)
  · exact He.free_ok X G (S.t.d.fact 12 (f := .free ("dict" : Str)) rfl)
theorem fld_inj : ∀ f g, (ks K w).fld f = (ks K w).fld g → f = g := by
  intro f g e
  have e2 : (gs.fdN[f]?).getD ⟨#[0, f]⟩ = (gs.fdN[g]?).getD ⟨#[0, g]⟩ := e
  exact fldN_inj (by decide) (by decide) e2
theorem gd_of (S : Sy K w h) (X : K.In h) (G : h.Ns mainGlobals mg) (hG : ∀ j, k = j + 1 → Gd (gm P K w mg base) j gs) : Gd (gm P K w mg base) k gs where
  free := free_all S X G
  glb := gl_ok S X G
  fn := by
    intro f x hx hne
    match f, hx with
    | 0, hx =>
      have hx : ("is_text" : Str) = x := Option.some.inj hx
      subst hx
      obtain ⟨fd, F⟩ := ok_is_text (P := P) (mg := mg) (base := base) S hG
      exact ⟨fd, _, F, He.glo_ok X G (S.t.d.fact 13 (f := .glo ("is_text" : Str)) rfl), fun n hn => by
        have hn : (none : Option Str) = some n := hn
        cases hn⟩
    | 1, hx =>
      have hx : ("is_name" : Str) = x := Option.some.inj hx
      subst hx
      obtain ⟨fd, F, B⟩ := okk_is_name (P := P) (mg := mg) (base := base) S hG
      exact ⟨fd, _, F, He.glo_ok X G (S.t.d.fact 14 (f := .glo ("is_name" : Str)) rfl), fun n hn => by
        have hn : some ("thing" : Str) = some n := hn
        cases hn
        exact B⟩
    | 2, hx =>
      have hx : ("is_deed" : Str) = x := Option.some.inj hx
      subst hx
      obtain ⟨fd, F, B⟩ := okk_is_deed (P := P) (mg := mg) (base := base) S hG
      exact ⟨fd, _, F, He.glo_ok X G (S.t.d.fact 15 (f := .glo ("is_deed" : Str)) rfl), fun n hn => by
        have hn : some ("thing" : Str) = some n := hn
        cases hn
        exact B⟩
    | 3, hx =>
      have hx : ("is_lines" : Str) = x := Option.some.inj hx
      subst hx
      obtain ⟨fd, F, B⟩ := okk_is_lines (P := P) (mg := mg) (base := base) S hG
      exact ⟨fd, _, F, He.glo_ok X G (S.t.d.fact 16 (f := .glo ("is_lines" : Str)) rfl), fun n hn => by
        have hn : some ("thing" : Str) = some n := hn
        cases hn
        exact B⟩
    | 4, hx =>
      have hx : ("is_flat" : Str) = x := Option.some.inj hx
      subst hx
      obtain ⟨fd, F⟩ := ok_is_flat (P := P) (mg := mg) (base := base) S hG
      exact ⟨fd, _, F, He.glo_ok X G (S.t.d.fact 17 (f := .glo ("is_flat" : Str)) rfl), fun n hn => by
        have hn : (none : Option Str) = some n := hn
        cases hn⟩
    | 5, hx =>
      have hx : ("flat_word" : Str) = x := Option.some.inj hx
      subst hx
      obtain ⟨fd, F, B⟩ := okk_flat_word (P := P) (mg := mg) (base := base) S hG
      exact ⟨fd, _, F, He.glo_ok X G (S.t.d.fact 18 (f := .glo ("flat_word" : Str)) rfl), fun n hn => by
        have hn : some ("thing" : Str) = some n := hn
        cases hn
        exact B⟩
    | 6, hx =>
      have hx : ("number_at" : Str) = x := Option.some.inj hx
      subst hx
      obtain ⟨fd, F⟩ := ok_number_at (P := P) (mg := mg) (base := base) S hG
      exact ⟨fd, _, F, He.glo_ok X G (S.t.d.fact 19 (f := .glo ("number_at" : Str)) rfl), fun n hn => by
        have hn : (none : Option Str) = some n := hn
        cases hn⟩
    | 7, hx =>
      have hx : ("row_at" : Str) = x := Option.some.inj hx
      subst hx
      obtain ⟨fd, F⟩ := ok_row_at (P := P) (mg := mg) (base := base) S hG
      exact ⟨fd, _, F, He.glo_ok X G (S.t.d.fact 20 (f := .glo ("row_at" : Str)) rfl), fun n hn => by
        have hn : (none : Option Str) = some n := hn
        cases hn⟩
    | 8, hx =>
      have hx : ("thing_at" : Str) = x := Option.some.inj hx
      subst hx
      obtain ⟨fd, F⟩ := ok_thing_at (P := P) (mg := mg) (base := base) S hG
      exact ⟨fd, _, F, He.glo_ok X G (S.t.d.fact 21 (f := .glo ("thing_at" : Str)) rfl), fun n hn => by
        have hn : (none : Option Str) = some n := hn
        cases hn⟩
    | 9, hx =>
      have hx : ("plain_deed" : Str) = x := Option.some.inj hx
      subst hx
      obtain ⟨fd, F, B⟩ := okk_plain_deed (P := P) (mg := mg) (base := base) S hG
      exact ⟨fd, _, F, He.glo_ok X G (S.t.d.fact 22 (f := .glo ("plain_deed" : Str)) rfl), fun n hn => by
        have hn : some ("thing" : Str) = some n := hn
        cases hn
        exact B⟩
    | 10, hx =>
      have hx : ("deed_lines" : Str) = x := Option.some.inj hx
      subst hx
      obtain ⟨fd, F, B⟩ := okk_deed_lines (P := P) (mg := mg) (base := base) S hG
      exact ⟨fd, _, F, He.glo_ok X G (S.t.d.fact 23 (f := .glo ("deed_lines" : Str)) rfl), fun n hn => by
        have hn : some ("deed" : Str) = some n := hn
        cases hn
        exact B⟩
    | 11, hx =>
      have hx : ("deeds_text" : Str) = x := Option.some.inj hx
      subst hx
      obtain ⟨fd, F, B⟩ := okk_deeds_text (P := P) (mg := mg) (base := base) S hG
      exact ⟨fd, _, F, He.glo_ok X G (S.t.d.fact 24 (f := .glo ("deeds_text" : Str)) rfl), fun n hn => by
        have hn : some ("deeds" : Str) = some n := hn
        cases hn
        exact B⟩
    | 12, hx =>
      have hx : ("figure_of" : Str) = x := Option.some.inj hx
      subst hx
      obtain ⟨fd, F, B⟩ := okk_figure_of (P := P) (mg := mg) (base := base) S hG
      exact ⟨fd, _, F, He.glo_ok X G (S.t.d.fact 25 (f := .glo ("figure_of" : Str)) rfl), fun n hn => by
        have hn : some ("word" : Str) = some n := hn
        cases hn
        exact B⟩
    | 13, hx => exact absurd (Option.some.inj hx).symm hne
    | 14, hx => exact absurd (Option.some.inj hx).symm hne
    | 15, hx => exact absurd (Option.some.inj hx).symm hne
    | 16, hx => exact absurd (Option.some.inj hx).symm hne
    | 17, hx => exact absurd (Option.some.inj hx).symm hne
    | 18, hx =>
      have hx : ("lines_read" : Str) = x := Option.some.inj hx
      subst hx
      obtain ⟨fd, F, B⟩ := okk_lines_read (P := P) (mg := mg) (base := base) S hG
      exact ⟨fd, _, F, He.glo_ok X G (S.t.d.fact 26 (f := .glo ("lines_read" : Str)) rfl), fun n hn => by
        have hn : some ("text" : Str) = some n := hn
        cases hn
        exact B⟩
    | 19, hx =>
      have hx : ("deeds_fault" : Str) = x := Option.some.inj hx
      subst hx
      obtain ⟨fd, F, B⟩ := okk_deeds_fault (P := P) (mg := mg) (base := base) S hG
      exact ⟨fd, _, F, He.glo_ok X G (S.t.d.fact 27 (f := .glo ("deeds_fault" : Str)) rfl), fun n hn => by
        have hn : some ("text" : Str) = some n := hn
        cases hn
        exact B⟩
    | 20, hx =>
      have hx : ("read_deeds" : Str) = x := Option.some.inj hx
      subst hx
      obtain ⟨fd, F, B⟩ := okk_read_deeds (P := P) (mg := mg) (base := base) S hG
      exact ⟨fd, _, F, He.glo_ok X G (S.t.d.fact 28 (f := .glo ("read_deeds" : Str)) rfl), fun n hn => by
        have hn : some ("text" : Str) = some n := hn
        cases hn
        exact B⟩
    | 21, hx =>
      have hx : ("_law_mbent" : Str) = x := Option.some.inj hx
      subst hx
      obtain ⟨fd, F⟩ := ok__law_mbent (P := P) (mg := mg) (base := base) S hG
      exact ⟨fd, _, F, He.glo_ok X G (S.t.d.fact 29 (f := .glo ("_law_mbent" : Str)) rfl), fun n hn => by
        have hn : (none : Option Str) = some n := hn
        cases hn⟩
    | 22, hx =>
      have hx : ("_law_mtext" : Str) = x := Option.some.inj hx
      subst hx
      obtain ⟨fd, F, B⟩ := okk__law_mtext (P := P) (mg := mg) (base := base) S hG
      exact ⟨fd, _, F, He.glo_ok X G (S.t.d.fact 30 (f := .glo ("_law_mtext" : Str)) rfl), fun n hn => by
        have hn : some ("lines" : Str) = some n := hn
        cases hn
        exact B⟩
    | 23, hx =>
      have hx : ("_law_start" : Str) = x := Option.some.inj hx
      subst hx
      obtain ⟨fd, F, B⟩ := okk__law_start (P := P) (mg := mg) (base := base) S hG
      exact ⟨fd, _, F, He.glo_ok X G (S.t.d.fact 31 (f := .glo ("_law_start" : Str)) rfl), fun n hn => by
        have hn : some ("script" : Str) = some n := hn
        cases hn
        exact B⟩
    | 24, hx =>
      have hx : ("_law_below" : Str) = x := Option.some.inj hx
      subst hx
      obtain ⟨fd, F⟩ := ok__law_below (P := P) (mg := mg) (base := base) S hG
      exact ⟨fd, _, F, He.glo_ok X G (S.t.d.fact 32 (f := .glo ("_law_below" : Str)) rfl), fun n hn => by
        have hn : (none : Option Str) = some n := hn
        cases hn⟩
    | 25, hx =>
      have hx : ("_law_pick" : Str) = x := Option.some.inj hx
      subst hx
      obtain ⟨fd, F⟩ := ok__law_pick (P := P) (mg := mg) (base := base) S hG
      exact ⟨fd, _, F, He.glo_ok X G (S.t.d.fact 33 (f := .glo ("_law_pick" : Str)) rfl), fun n hn => by
        have hn : (none : Option Str) = some n := hn
        cases hn⟩
    | 26, hx =>
      have hx : ("_law_copied" : Str) = x := Option.some.inj hx
      subst hx
      obtain ⟨fd, F, B⟩ := okk__law_copied (P := P) (mg := mg) (base := base) S hG
      exact ⟨fd, _, F, He.glo_ok X G (S.t.d.fact 34 (f := .glo ("_law_copied" : Str)) rfl), fun n hn => by
        have hn : some ("thing" : Str) = some n := hn
        cases hn
        exact B⟩
    | 27, hx =>
      have hx : ("_law_same" : Str) = x := Option.some.inj hx
      subst hx
      obtain ⟨fd, F⟩ := ok__law_same (P := P) (mg := mg) (base := base) S hG
      exact ⟨fd, _, F, He.glo_ok X G (S.t.d.fact 35 (f := .glo ("_law_same" : Str)) rfl), fun n hn => by
        have hn : (none : Option Str) = some n := hn
        cases hn⟩
    | 28, hx =>
      have hx : ("_law_mthing" : Str) = x := Option.some.inj hx
      subst hx
      obtain ⟨fd, F⟩ := ok__law_mthing (P := P) (mg := mg) (base := base) S hG
      exact ⟨fd, _, F, He.glo_ok X G (S.t.d.fact 36 (f := .glo ("_law_mthing" : Str)) rfl), fun n hn => by
        have hn : (none : Option Str) = some n := hn
        cases hn⟩
    | 29, hx =>
      have hx : ("_law_mflat" : Str) = x := Option.some.inj hx
      subst hx
      obtain ⟨fd, F, B⟩ := okk__law_mflat (P := P) (mg := mg) (base := base) S hG
      exact ⟨fd, _, F, He.glo_ok X G (S.t.d.fact 37 (f := .glo ("_law_mflat" : Str)) rfl), fun n hn => by
        have hn : some ("thing" : Str) = some n := hn
        cases hn
        exact B⟩
    | 30, hx =>
      have hx : ("_law_mflat_read" : Str) = x := Option.some.inj hx
      subst hx
      obtain ⟨fd, F⟩ := ok__law_mflat_read (P := P) (mg := mg) (base := base) S hG
      exact ⟨fd, _, F, He.glo_ok X G (S.t.d.fact 38 (f := .glo ("_law_mflat_read" : Str)) rfl), fun n hn => by
        have hn : (none : Option Str) = some n := hn
        cases hn⟩
    | 31, hx =>
      have hx : ("_law_mname" : Str) = x := Option.some.inj hx
      subst hx
      obtain ⟨fd, F, B⟩ := okk__law_mname (P := P) (mg := mg) (base := base) S hG
      exact ⟨fd, _, F, He.glo_ok X G (S.t.d.fact 39 (f := .glo ("_law_mname" : Str)) rfl), fun n hn => by
        have hn : some ("word" : Str) = some n := hn
        cases hn
        exact B⟩
    | 32, hx =>
      have hx : ("_law_mcount_in" : Str) = x := Option.some.inj hx
      subst hx
      obtain ⟨fd, F, B⟩ := okk__law_mcount_in (P := P) (mg := mg) (base := base) S hG
      exact ⟨fd, _, F, He.glo_ok X G (S.t.d.fact 40 (f := .glo ("_law_mcount_in" : Str)) rfl), fun n hn => by
        have hn : some ("word" : Str) = some n := hn
        cases hn
        exact B⟩
    | 33, hx =>
      have hx : ("_law_mread_lines" : Str) = x := Option.some.inj hx
      subst hx
      obtain ⟨fd, F, B⟩ := okk__law_mread_lines (P := P) (mg := mg) (base := base) S hG
      exact ⟨fd, _, F, He.glo_ok X G (S.t.d.fact 41 (f := .glo ("_law_mread_lines" : Str)) rfl), fun n hn => by
        have hn : some ("lines" : Str) = some n := hn
        cases hn
        exact B⟩
    | 34, hx =>
      have hx : ("_law_mform" : Str) = x := Option.some.inj hx
      subst hx
      obtain ⟨fd, F, B⟩ := okk__law_mform (P := P) (mg := mg) (base := base) S hG
      exact ⟨fd, _, F, He.glo_ok X G (S.t.d.fact 42 (f := .glo ("_law_mform" : Str)) rfl), fun n hn => by
        have hn : some ("stream" : Str) = some n := hn
        cases hn
        exact B⟩
    | 35, hx => exact absurd (Option.some.inj hx).symm hne
    | 36, hx => exact absurd (Option.some.inj hx).symm hne
    | n + 37, hx => cases hx
  cls := fun c => match c with
    | 0 => He.cls_ok (S.t.d.fact 46 (f := .cls ("DeedReading" : Str)) rfl)
    | _ + 1 => He.cls_ok (S.t.d.fact 46 (f := .cls ("DeedReading" : Str)) rfl)
  mt := by
    intro c f m hm
    simp only [gs, List.mem_cons, List.not_mem_nil, or_false, Prod.mk.injEq] at hm
    rcases hm with ⟨rfl, rfl, rfl⟩ | ⟨rfl, rfl, rfl⟩ | ⟨rfl, rfl, rfl⟩ | ⟨rfl, rfl, rfl⟩ | ⟨rfl, rfl, rfl⟩
    · obtain ⟨fd, F⟩ := ok_DeedReading___init__ (P := P) (mg := mg) (base := base) S hG
      exact ⟨⟨fd, _, F⟩, He.meth_ok (S.t.d.fact 51 (f := .meth ("DeedReading" : Str) ("__init__" : Str)) rfl), fldN_ne (by decide) (by decide)⟩
    · obtain ⟨fd, F⟩ := ok_DeedReading_close (P := P) (mg := mg) (base := base) S hG
      exact ⟨⟨fd, _, F⟩, He.meth_ok (S.t.d.fact 52 (f := .meth ("DeedReading" : Str) ("close" : Str)) rfl), fldN_ne (by decide) (by decide)⟩
    · obtain ⟨fd, F⟩ := ok_DeedReading_take_line (P := P) (mg := mg) (base := base) S hG
      exact ⟨⟨fd, _, F⟩, He.meth_ok (S.t.d.fact 53 (f := .meth ("DeedReading" : Str) ("take_line" : Str)) rfl), fldN_ne (by decide) (by decide)⟩
    · obtain ⟨fd, F⟩ := ok_DeedReading_take_put (P := P) (mg := mg) (base := base) S hG
      exact ⟨⟨fd, _, F⟩, He.meth_ok (S.t.d.fact 54 (f := .meth ("DeedReading" : Str) ("take_put" : Str)) rfl), fldN_ne (by decide) (by decide)⟩
    · obtain ⟨fd, F⟩ := ok_DeedReading_take (P := P) (mg := mg) (base := base) S hG
      exact ⟨⟨fd, _, F⟩, He.meth_ok (S.t.d.fact 55 (f := .meth ("DeedReading" : Str) ("take" : Str)) rfl), fldN_ne (by decide) (by decide)⟩
  mkc := by
    intro c x hx
    match c, hx with
    | 0, hx =>
      have hx : ("DeedReading" : Str) = x := Option.some.inj hx
      subst hx
      obtain ⟨fd, F⟩ := ok_DeedReading___init__ (P := P) (mg := mg) (base := base) S hG
      exact ⟨⟨fd, _, F⟩, He.mkr_ok (S.t.d.fact 47 (f := .mkr ("DeedReading" : Str)) rfl), He.glo_ok X G (S.t.d.fact 45 (f := .glo ("DeedReading" : Str)) rfl)⟩
    | n + 1, hx => cases hx
  inj := fld_inj
  fld := by
    intro f x hx
    match f, hx with
    | 0, hx =>
      have hx : ("deeds" : Str) = x := Option.some.inj hx
      subst hx
      exact ⟨rfl, fun c => match c with
        | 0 => He.noat_ok (S.t.d.fact 48 (f := .noat ("DeedReading" : Str) ("deeds" : Str)) rfl)
        | _ + 1 => He.noat_ok (S.t.d.fact 48 (f := .noat ("DeedReading" : Str) ("deeds" : Str)) rfl)⟩
    | 1, hx =>
      have hx : ("left" : Str) = x := Option.some.inj hx
      subst hx
      exact ⟨rfl, fun c => match c with
        | 0 => He.noat_ok (S.t.d.fact 49 (f := .noat ("DeedReading" : Str) ("left" : Str)) rfl)
        | _ + 1 => He.noat_ok (S.t.d.fact 49 (f := .noat ("DeedReading" : Str) ("left" : Str)) rfl)⟩
    | 2, hx =>
      have hx : ("lines" : Str) = x := Option.some.inj hx
      subst hx
      exact ⟨rfl, fun c => match c with
        | 0 => He.noat_ok (S.t.d.fact 50 (f := .noat ("DeedReading" : Str) ("lines" : Str)) rfl)
        | _ + 1 => He.noat_ok (S.t.d.fact 50 (f := .noat ("DeedReading" : Str) ("lines" : Str)) rfl)⟩
    | n + 3, hx => cases hx
  err := by
    intro c x hx
    match c, hx with
    | 0, hx =>
      have hx : ("BadDeed" : Str) = x := Option.some.inj hx
      subst hx
      exact ⟨_, er_BadDeed S X G⟩
    | 1, hx =>
      have hx : ("BadLine" : Str) = x := Option.some.inj hx
      subst hx
      exact ⟨_, er_BadLine S X G⟩
    | n + 2, hx => cases hx
  mw := mw_ok S X G
theorem gd_all (S : Sy K w h) (X : K.In h) (G : h.Ns mainGlobals mg) : ∀ k, Gd (gm P K w mg base) k gs
  | 0 => gd_of S X G fun j e => by cases e
  | k + 1 => gd_of S X G fun j e => by
    cases e
    exact gd_all S X G k
end
end K85
namespace K85
open PySem PySem.Spec PyProof.Rows L2 Pv
theorem ch_law : chkLs gs ⟨n_law, defScope s_law, true, true⟩ b_law (defBody s_law) = true := by decide +kernel
section
variable {P : Program} {K : PySem.W.Frag} {w : World} {h : Heap} {mg : Str → Option Value} {base : Heap} {k : Nat}
theorem law_ok (S : Sy K w h) (X : K.In h) (G : h.Ns mainGlobals mg) : ∃ fd, (∀ (s : Shared) (v : Value), BindsTo s fd ⟨[v], []⟩ [(("script" : Str), v)]) ∧
    ∀ base : Heap, K.In base → base.Ns mainGlobals mg → (∀ p ∈ [He.cT K (("law" : Str), none)], LamX.TabB base mg p.1 p.2) → FnOk P w K mg base (L2.CX P w) (4 * (k + 1) + 4) (He.ga K ("law" : Str)) fd [("script" : Str)] (spOf (gm P K w mg base) (k + 1) 36) := by
  obtain ⟨fd, F⟩ := fd_law (P := P) (mg := mg) (base := h) S
  have hb := F.bindsA bd_law
  (obtain ⟨oc, od, dV, kV, doc, pm, an, cdv, ct, osl, rfl, lk, hcd, _, _⟩ := F.ex)
  obtain ⟨c, rfl⟩ := He.codeIn_ref hcd
  have ec : He.codeOf K (("law" : Str), none) = c := He.codeOf_eq lk rfl
  refine ⟨_, fun s v => hb s [v] rfl, fun base X2 G2 tb => ?_⟩
  have tb := tb _ (List.mem_cons_self ..)
  refine def_step (M := gm P K w mg base) (f := 36) (lm := some (c, (He.cT K (("law" : Str), none)).2, ("law.<locals>." : Str))) (N := n_law) lk hcd sc_law rfl rfl rfl (fun E => ?_) fun c' P' q' e => ?_
  · exact chkLs_ok (g := gs) (Γ := ⟨gm P K w mg base, k, E, n_law, defScope s_law, true, some (c, (He.cT K (("law" : Str), none)).2, ("law.<locals>." : Str))⟩) (gd_all S X G k) (fun c' P' q' e => by
      cases e
      refine ⟨List.mem_cons_self .., fun p hp _ => ?_⟩
      (obtain rfl := List.mem_singleton.mp hp)
      rfl) ch_law
  · cases e
    refine ⟨rfl, ?_, fun n f cd => rfl⟩
    rw [← ec]
    exact tb
end
/-- what is left: the evaluation -/
def Says : Prop := ∀ ns : List Int, ns.length ≤ 63 → ∃ St, callF pg 56 36 [.scr ns] [] = .ok (.bl true) St
/-- the world a law begins in: the tables alone may change -/
def G0 (H : Hp) : Hp := fun b => match H b with
  | some (.tbl _) => none
  | o => o
theorem G0_sub (H : Hp) : Sub (G0 H) H := fun a o e => by
  unfold G0 at e
  split at e
  · cases e
  · exact e
theorem G0_some {H : Hp} {a : Addr} {o : HO} (h : H a = some o) (hn : ∀ ps, o ≠ .tbl ps) : G0 H a = some o := by
  unfold G0
  split
  · rename_i ps e
    rw [h] at e
    exact absurd (Option.some.inj e) (hn ps)
  · exact h
theorem G0_sql {K : PySem.W.Frag} {H : Hp} {a : Addr} {xs : List V} (h : SqL K H a xs) : SqL K (G0 H) a xs := by
  (rcases h with (h | ⟨o, h⟩) | h)
  · exact .inl (.inl (G0_some h fun ps e => by cases e))
  · exact .inl (.inr ⟨o, G0_some h fun ps e => by cases e⟩)
  · exact .inr h
theorem start_ok {P : Program} {K : PySem.W.Frag} {w : World} {H : Hp} (hT : H (He.cT K (("law" : Str), none)).2 = some (.tbl #[])) : (Wd.mk H (G0 H) []).ok (ks K w) [] where
  sub := G0_sub H
  len := rfl
  nd := fun i j a h => by cases h
  live := fun i a h => by cases h
  cell := fun i a c h => by cases h
  gt := fun a ps e => by
    have e2 : G0 H a = some (.tbl ps) := e
    unfold G0 at e2
    split at e2
    · cases e2
    · rename_i hn
      exact hn ps e2
  tab := fun p hp => by
    (obtain rfl := List.mem_singleton.mp hp)
    exact ⟨#[], hT, trivial, fun pos cv e => by cases e⟩
theorem law_says (hs : Says) {P : Program} {K : PySem.W.Frag} {w : World} {mg : Str → Option Value} {base : Heap} {H : Hp} {a : Addr} {ns : List Int} (hl : ns.length ≤ 63) (hT : H (He.cT K (("law" : Str), none)).2 = some (.tbl #[])) (hS : SqL K H a (ns.map V.int)) :
    spOf (gm P K w mg base) 56 36 [.ref a] H (fun v _ => v = .bl true) fun _ _ _ => False := by
  obtain ⟨St, e⟩ := hs ns hl
  refine ⟨Wd.mk H (G0 H) [], [], [.scr ns], rfl, start_ok (P := P) hT, .cons (.scr (G0_sql hS)) .nil, ?_⟩
  show Post _ _ _ _ (callF pg 56 36 [.scr ns] []) _
  rw [e]
  exact fun w' v x k r => by cases r; rfl
theorem cx_false {P : Program} {w : World} {H : Hp} {s : Shared} {e : Value} {s' : Shared} (h : L2.CX P w [] H s (fun _ _ _ => False) e s') : False := by
  (obtain ⟨_, _, _, _, _, _, _, _, _, _, _, _, z⟩ := h)
  exact z
end K85
open PySem PySem.W PySem.Calls PyProof.Rows in
theorem k85_holds (hs : K85.Says) : PySem.Challenge.rw_tellback_k85_texts_of_deeds.Holds := by
  w_on; o_law
  refine HandSHeadRun.head_any (r := OpenLaw.row PySem.Challenge.rw_tellback_k85_texts_of_deeds) (q := view (OpenLaw.row PySem.Challenge.rw_tellback_k85_texts_of_deeds).prog [49]) (H := K85.hk) (ob := K85.ob) (M := 3000) (loose := K85.loose) (d := HandSHeadRun.topDef (OpenLaw.row PySem.Challenge.rw_tellback_k85_texts_of_deeds).prog 49) (kwd := []) K85.ob_eq
    (by kernel_rfl) (fun s => by kernel_rfl) K85.run (by kernel_rfl) (by kernel_rfl) (by kernel_rfl) (by rfl) (by first | assumption | decide +kernel) (by decide +kernel) ⟨rfl, rfl, rfl, rfl, rfl, by decide +kernel⟩ ?hw ?hc
  case hw => w_witness2
  case hc =>
    refine LamX.walk_ofTsE (l := PySem.Challenge.rw_tellback_k85_texts_of_deeds) (n := 63) (k := 228) (x := "script") (CX := L2.CX PySem.Challenge.rw_tellback_k85_texts_of_deeds.prog) rfl (by decide) (by kernel_rfl) ⟨rfl, by decide, by decide⟩ ?F (fun _ _ _ _ _ z => K85.cx_false z)
    intro w mg fa h Y G hmg0
    obtain ⟨K, KX, S⟩ := Y
    refine ⟨K, KX, ?_⟩
    have hmg : mg ("law" : PySem.Str)
          = some (.ref fa) := by
      have e : (HandSHeadRun.topDef (OpenLaw.row PySem.Challenge.rw_tellback_k85_texts_of_deeds).prog 49).name = ("law" : PySem.Str) := by kernel_rfl
      rw [← e]
      exact hmg0
    obtain ⟨fd, hb, hF⟩ := K85.law_ok (P := PySem.Challenge.rw_tellback_k85_texts_of_deeds.prog) (k := 55) S KX G
    have e := hmg.symm.trans (He.glo_ok KX G (S.t.d.fact 44 (f := .glo ("law" : PySem.Str)) rfl))
    cases e
    refine ⟨fd, [He.cT K (("law" : PySem.Str), none)], Pv.spOf (K85.gm PySem.Challenge.rw_tellback_k85_texts_of_deeds.prog K w mg h) 56 36, ?_, ?_, ?_, hb, ?_, hF⟩
    · intro p hp
      (obtain rfl := List.mem_singleton.mp hp)
      exact S.empty _ (List.mem_cons_self ..)
    · intro p hp
      (obtain rfl := List.mem_singleton.mp hp)
      exact S.out _ (List.mem_cons_self ..)
    · intro p hp
      (obtain rfl := List.mem_singleton.mp hp)
      exact PySem.W.codeHd_of_K KX (S.hd _ (List.mem_cons_self ..))
    · intro H a ns hl _ hT hS
      exact K85.law_says hs hl (hT _ (List.mem_cons_self ..)) hS
theorem PySem.Challenge.cw_tellback_k85_texts_of_deeds_holds : PySem.Challenge.rw_tellback_k85_texts_of_deeds.Holds :=
  k85_holds K85m.says
