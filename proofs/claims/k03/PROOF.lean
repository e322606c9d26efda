import PyProof.Rows.All
import Wide.All
import OpenK.AllK
import Wide.FinOn
import HandS.ForMost
import HandS.Flow
import HandS.NoneIn
import HandS.IsInst
import HandS.Defaults
import HandS.Style
import HandS.WideBits
import HandS.Wide
import HandS.Conv
import HandS.CallSlots
import HandS.ExcInit
import HandS.WordsExc
import HandS.SortInts
import HandS.More
import HandS.SetFor
import HandS.Zip
import HandS.Head0
import HandS.Head1
import HandS.Head2
import HandS.HeadEnd
import HandS.HeadHook1
import HandS.HeadHook2
import PySem.Challenge.RW_boundtobe_k03_whole_crowds_judged
set_option Elab.async false
set_option linter.all false
set_option maxRecDepth 100000
set_option maxHeartbeats 4000000
namespace MP
open PySem L2
inductive Vl where
  | non | bl (b : Bool) | int (i : Int) | str (s : Str) | ref (n : Nat) | glo (k : Nat)
  deriving DecidableEq, Inhabited
inductive Ob where
  | lst (xs : List Vl) | tup (xs : List Vl) | rol (xs : List Vl) | dK (kvs : List (Key × Vl))
inductive Tr where
  | lf | nd (o : Option Ob) (l r : Tr)
def Tr.get : Tr → Nat → Option Ob
  | .lf, _ => none
  | .nd o l r, n => if n = 0 then o else if n % 2 = 1 then l.get (n / 2) else r.get (n / 2 - 1)
def Tr.sing : Nat → Nat → Ob → Tr
  | 0, _, _ => .lf
  | k + 1, n, o => if n = 0 then .nd (some o) .lf .lf else if n % 2 = 1 then .nd none (Tr.sing k (n / 2) o) .lf else .nd none .lf (Tr.sing k (n / 2 - 1) o)
def Tr.set : Tr → Nat → Ob → Tr
  | .lf, n, o => Tr.sing (n + 1) n o
  | .nd p l r, n, o => if n = 0 then .nd (some o) l r else if n % 2 = 1 then .nd p (l.set (n / 2) o) r else .nd p l (r.set (n / 2 - 1) o)
theorem Tr.get_nd (p : Option Ob) (l r : Tr) (m : Nat) : (Tr.nd p l r).get m = if m = 0 then p else if m % 2 = 1 then l.get (m / 2) else r.get (m / 2 - 1) := by
  rw [Tr.get]
theorem Tr.get_lf (m : Nat) : Tr.lf.get m = none := rfl
theorem Tr.get_sing : ∀ (k n : Nat) (o : Ob) (m : Nat), n < k → (Tr.sing k n o).get m = if n = m then some o else none
  | 0, _, _, _, h => absurd h (Nat.not_lt_zero _)
  | k + 1, n, o, m, h => by
    unfold Tr.sing
    have ih1 := Tr.get_sing k (n / 2) o (m / 2)
    have ih2 := Tr.get_sing k (n / 2 - 1) o (m / 2 - 1)
    by_cases h0 : n = 0
    · rw [if_pos h0, Tr.get_nd]
      by_cases hm : m = 0
      · rw [if_pos hm, if_pos (by omega)]
      · rw [if_neg hm, if_neg (show ¬ n = m by omega), Tr.get_lf, Tr.get_lf, ite_self]
    · rw [if_neg h0]
      by_cases h1 : n % 2 = 1
      · rw [if_pos h1, Tr.get_nd, Tr.get_lf]
        by_cases hm : m = 0
        · rw [if_pos hm, if_neg (by omega)]
        · rw [if_neg hm]
          by_cases hm1 : m % 2 = 1
          · rw [if_pos hm1, ih1 (by omega)]
            by_cases e : n = m
            · rw [if_pos e, if_pos (by omega)]
            · rw [if_neg e, if_neg (by omega)]
          · rw [if_neg hm1, if_neg (by omega)]
      · rw [if_neg h1, Tr.get_nd, Tr.get_lf]
        by_cases hm : m = 0
        · rw [if_pos hm, if_neg (by omega)]
        · rw [if_neg hm]
          by_cases hm1 : m % 2 = 1
          · rw [if_pos hm1, if_neg (by omega)]
          · rw [if_neg hm1, ih2 (by omega)]
            by_cases e : n = m
            · rw [if_pos e, if_pos (by omega)]
            · rw [if_neg e, if_neg (by omega)]
theorem Tr.get_set : ∀ (t : Tr) (n : Nat) (o : Ob) (m : Nat), (t.set n o).get m = if n = m then some o else t.get m
  | .lf, n, o, m => by unfold Tr.set; rw [Tr.get_sing _ _ _ _ (Nat.lt_succ_self n), Tr.get_lf]
  | .nd p l r, n, o, m => by
    unfold Tr.set
    have ih1 := Tr.get_set l (n / 2) o (m / 2)
    have ih2 := Tr.get_set r (n / 2 - 1) o (m / 2 - 1)
    by_cases h0 : n = 0
    · rw [if_pos h0, Tr.get_nd, Tr.get_nd]
      by_cases hm : m = 0
      · rw [if_pos hm, if_pos (by omega)]
      · rw [if_neg hm, if_neg (show ¬ n = m by omega), if_neg hm]
    · rw [if_neg h0]
      by_cases h1 : n % 2 = 1
      · rw [if_pos h1, Tr.get_nd, Tr.get_nd]
        by_cases hm : m = 0
        · rw [if_pos hm, if_neg (by omega), if_pos hm]
        · rw [if_neg hm, if_neg hm]
          by_cases hm1 : m % 2 = 1
          · rw [if_pos hm1, if_pos hm1, ih1]
            by_cases e : n = m
            · rw [if_pos e, if_pos (by omega)]
            · rw [if_neg e, if_neg (by omega)]
          · rw [if_neg hm1, if_neg hm1, if_neg (by omega)]
      · rw [if_neg h1, Tr.get_nd, Tr.get_nd]
        by_cases hm : m = 0
        · rw [if_pos hm, if_neg (by omega), if_pos hm]
        · rw [if_neg hm, if_neg hm]
          by_cases hm1 : m % 2 = 1
          · rw [if_pos hm1, if_pos hm1, if_neg (by omega)]
          · rw [if_neg hm1, if_neg hm1, ih2]
            by_cases e : n = m
            · rw [if_pos e, if_pos (by omega)]
            · rw [if_neg e, if_neg (by omega)]
structure Sto where
  t : Tr
  n : Nat
def Sto.get (S : Sto) (i : Nat) : Option Ob := if i < S.n then S.t.get i else none
def Sto.set (S : Sto) (i : Nat) (o : Ob) : Sto := ⟨S.t.set i o, S.n⟩
def Sto.push (S : Sto) (o : Ob) : Sto := ⟨S.t.set S.n o, S.n + 1⟩
theorem Sto.get_set (S : Sto) (i : Nat) (o : Ob) (j : Nat) : (S.set i o).get j = if i = j ∧ i < S.n then some o else S.get j := by
  unfold Sto.get Sto.set
  simp only [Tr.get_set]
  by_cases h : j < S.n
  · rw [if_pos h, if_pos h]
    by_cases e : i = j
    · rw [if_pos e, if_pos ⟨e, by omega⟩]
    · rw [if_neg e, if_neg (fun z => e z.1)]
  · rw [if_neg h, if_neg h, if_neg (fun z => h (by omega))]
theorem Sto.get_push (S : Sto) (o : Ob) (j : Nat) : (S.push o).get j = if j = S.n then some o else S.get j := by
  unfold Sto.get Sto.push
  simp only [Tr.get_set]
  by_cases e : j = S.n
  · rw [if_pos e, if_pos (by omega), if_pos e.symm]
  · rw [if_neg e]
    by_cases h : j < S.n
    · rw [if_pos (by omega), if_pos h, if_neg (fun z => e z.symm)]
    · rw [if_neg (by omega), if_neg h]
theorem Sto.n_set (S : Sto) (i : Nat) (o : Ob) : (S.set i o).n = S.n := rfl
theorem Sto.n_push (S : Sto) (o : Ob) : (S.push o).n = S.n + 1 := rfl
theorem Sto.get_lt {S : Sto} {i : Nat} {o : Ob} (h : S.get i = some o) : i < S.n := by
  unfold Sto.get at h
  by_cases h' : i < S.n
  · exact h'
  · rw [if_neg h'] at h; cases h
def Sto.nil : Sto := ⟨.lf, 0⟩
inductive R (α : Type) where
  | ok (a : α) (S : Sto)
  | exc (k : Nat) (v : Vl) (S : Sto)
  | bad
def R.bind {α β : Type} (r : R α) (f : α → Sto → R β) : R β := match r with
  | .ok a S => f a S
  | .exc k v S => .exc k v S
  | .bad => .bad
abbrev Env := List (Option Vl)
inductive Fl where
  | nx (ρ : MP.Env) | rt (v : Vl) | bk (ρ : MP.Env) | ct (ρ : MP.Env)
inductive XS where
  | fl (f : Fl) (S : Sto)
  | exc (k : Nat) (v : Vl) (ρ : MP.Env) (S : Sto)
  | bad
inductive Op2 where
  | add | sub | mul | fdiv | mod | pow
  deriving DecidableEq
inductive Cm where
  | eq | ne | lt | le | gt | ge | is_ | isn | in_ | nin
  deriving DecidableEq
inductive BT where
  | none | bool | int | str | list | tuple | dict
  deriving DecidableEq
inductive Bi where
  | len | max2 | min2 | int1 | all | any | sum | sorted | list | tuple | repr | max1 | min1 | abs
  deriving DecidableEq
inductive Mt where
  | append | insert | count | bitLength | pop0
  deriving DecidableEq
mutual
inductive E where
  | bad
  | non | bl (b : Bool) | int (i : Int) | str (s : List Nat)
  | var (i : Nat)
  | glo (k : Nat)
  | bin (o : Op2) (a b : E)
  | neg (a : E)
  | not (a : E)
  | and (a b : E) | or (a b : E)
  | cmp (c : Cm) (a b : E)
  | chn (c d : Cm) (a b e : E)
  | ite (c : Tt) (a b : E)
  | lst (es : Es) | tup (es : Es)
  | sub (a b : E)
  | cut (a lo hi : E)
  | call (f : Nat) (es : Es) (dv : List Vl)
  | callK (f : Nat) (es : Es) (ks : Es) (pm : List Nat)
  | bi (b : Bi) (es : Es)
  | isi (a : E) (ts : List BT) (one : Bool)
  | mt (m : Mt) (a : E) (es : Es)
  | lc (own : List Nat) (tg : Tg) (it : It) (ifs : Tt) (elt : E)
  | dict0
  | lrg (es : Es)
inductive Tt where
  | yes | val (e : E) | not (t : Tt) | and (t u : Tt) | or (t u : Tt) | cmp (c : Cm) (a b : E) | chn (c d : Cm) (a b e : E)
inductive Es where
  | nil | cons (e : E) (r : Es)
inductive Tg where
  | name (i : Nat) | tup (ts : Tgs) | sub (o i : E)
inductive Tgs where
  | nil | cons (t : Tg) (r : Tgs)
inductive It where
  | seq (e : E) | rng (es : Es) | enum (e : E) | zip (a b : E)
end
mutual
inductive Sm where
  | bad | pass
  | expr (e : E)
  | asg (t : Tg) (e : E)
  | par (i j : Nat) (a b : E)
  | ret (e : E) | retN
  | ite (c : Tt) (a b : Ss)
  | forr (t : Tg) (it : It) (b : Ss)
  | whl (c : Tt) (b : Ss)
  | brk | cnt
inductive Ss where
  | nil | cons (s : Sm) (r : Ss)
end
def Tgs.len : Tgs → Nat
  | .nil => 0
  | .cons _ r => r.len + 1
structure Fn where
  np : Nat
  nn : Nat
  body : Ss
def b2n (b : Bool) : Int := if b then 1 else 0
def natsEq : List Nat → List Nat → Bool
  | [], [] => true
  | a :: as, b :: bs => Nat.beq a b && natsEq as bs
  | _, _ => false
theorem natsEq_iff : ∀ {a b : List Nat}, natsEq a b = true ↔ a = b
  | [], [] => by simp [natsEq]
  | [], _ :: _ => by simp [natsEq]
  | _ :: _, [] => by simp [natsEq]
  | a :: as, b :: bs => by
    simp only [natsEq, Bool.and_eq_true, natsEq_iff (a := as), Nat.beq_eq, List.cons.injEq]
def strEq (a b : Str) : Bool := natsEq a.cps.toList b.cps.toList
theorem strEq_iff {a b : Str} : strEq a b = true ↔ a = b := by
  unfold strEq
  rw [natsEq_iff]
  cases a; cases b
  simp
def lineN : Nat := 16777216
/-- data: read out of the store; nested at most so deep -/
def datL (f : Vl → Option PyData) : List Vl → Option (List PyData)
  | [] => some []
  | v :: vs => match f v, datL f vs with
    | some d, some ds => some (d :: ds)
    | _, _ => none
def dat : Nat → Sto → Vl → Option PyData
  | _, _, .non => some .none
  | _, _, .bl b => some (.bool b)
  | _, _, .int i => some (.int i)
  | _, _, .str s => some (.str s)
  | _, _, .glo _ => none
  | 0, _, .ref _ => none
  | k + 1, S, .ref n => match S.get n with
    | some (.lst xs) => (datL (dat k S) xs).map .list
    | some (.rol xs) => (datL (dat k S) xs).map .list
    | some (.tup xs) => (datL (dat k S) xs).map .tuple
    | _ => none
termination_by structural k => k
def canon (d : PyData) : Bool := SeqAt.shaped d
/-- == of two values -/
def eqS (S : Sto) (x y : Vl) : Option Bool := match dat 60 S x, dat 60 S y with
  | some d, some e => if canon d && canon e then some (PyData.eqv d e) else none
  | _, _ => none
def seqOf (S : Sto) : Vl → Option (List Vl)
  | .ref n => match S.get n with
    | some (.lst xs) => some xs
    | some (.rol xs) => some xs
    | some (.tup xs) => some xs
    | _ => none
  | _ => none
def lstOf (S : Sto) : Vl → Option (List Vl)
  | .ref n => match S.get n with
    | some (.lst xs) => some xs
    | some (.rol xs) => some xs
    | _ => none
  | _ => none
def intsOf : List Vl → Option (List Int)
  | [] => some []
  | .int i :: r => (intsOf r).map (i :: ·)
  | _ :: _ => none
def blsOf : List Vl → Option (List Bool)
  | [] => some []
  | .bl i :: r => (blsOf r).map (i :: ·)
  | _ :: _ => none
def newL (xs : List Vl) (S : Sto) : R Vl := if Nat.ble xs.length lineN then .ok (.ref S.n) (S.push (.lst xs)) else .bad
def newT (xs : List Vl) (S : Sto) : R Vl := if Nat.ble xs.length lineN then .ok (.ref S.n) (S.push (.tup xs)) else .bad
def repL (xs : List Vl) : Nat → List Vl
  | 0 => []
  | k + 1 => xs ++ repL xs k
def mulOk (i j : Int) : Bool := Nat.ble (Builtin.Int.intBits i + Builtin.Int.intBits j) 134217728
def binS : Op2 → Vl → Vl → Sto → R Vl
  | .add, .int i, .int j, S => .ok (.int (i + j)) S
  | .add, .str a, .str b, S => if Nat.ble (a.length + b.length) lineN then .ok (.str (a ++ b)) S else .bad
  | .add, .ref a, .ref b, S => match S.get a, S.get b with
    | some (.lst xs), some (.lst ys) => newL (xs ++ ys) S
    | some (.tup (x :: xs)), some (.tup (y :: ys)) => newT ((x :: xs) ++ (y :: ys)) S
    | _, _ => .bad
  | .sub, .int i, .int j, S => .ok (.int (i - j)) S
  | .mul, .int i, .int j, S => if mulOk i j then .ok (.int (i * j)) S else .bad
  | .mul, .ref a, .int k, S => match S.get a with
    | some (.lst xs) => if decide (-(2 ^ 62) ≤ k) && (decide (k < 2 ^ 62) && Nat.ble (xs.length * k.toNat) lineN) then .ok (.ref S.n) (S.push (.lst (repL xs k.toNat))) else .bad
    | _ => .bad
  | .fdiv, .int i, .int j, S => if decide (j ≠ 0) && !Builtin.divisionGoesByPylong i j then .ok (.int (i.fdiv j)) S else .bad
  | .mod, .int i, .int j, S => if decide (j ≠ 0) then .ok (.int (i.fmod j)) S else .bad
  | .pow, .int i, .int j, S => if decide (0 ≤ j) && decide ((Builtin.Int.intBits i : Int) * j ≤ 134217728) then .ok (.int (i ^ j.toNat)) S else .bad
  | _, _, _, _ => .bad
def flat : Vl → Bool
  | .ref _ => false
  | .glo _ => false
  | _ => true
def eqF : Vl → Vl → Bool
  | .non, .non => true
  | .bl a, .bl b => a == b
  | .bl a, .int b => (if a then 1 else 0) == b
  | .int a, .bl b => a == (if b then 1 else 0)
  | .int a, .int b => a == b
  | .str a, .str b => strEq a b
  | _, _ => false
def allFlat : List Vl → Bool
  | [] => true
  | v :: vs => flat v && allFlat vs
def inF (x : Vl) : List Vl → Bool
  | [] => false
  | v :: vs => eqF v x || inF x vs
def keyV : Vl → Option Key
  | .int i => some (.inl i)
  | .str s => some (.inr s)
  | _ => none
def keyEq : Key → Key → Bool
  | .inl a, .inl b => a == b
  | .inr a, .inr b => strEq a b
  | _, _ => false
def dget (k : Key) : List (Key × Vl) → Option Vl
  | [] => none
  | (j, v) :: r => if keyEq j k then some v else dget k r
def cmpS : Cm → Vl → Vl → Sto → R Vl
  | .eq, x, y, S => match eqS S x y with
    | some b => .ok (.bl b) S
    | none => .bad
  | .ne, x, y, S => match eqS S x y with
    | some b => .ok (.bl (!b)) S
    | none => .bad
  | .lt, .int i, .int j, S => .ok (.bl (decide (i < j))) S
  | .le, .int i, .int j, S => .ok (.bl (decide (i ≤ j))) S
  | .gt, .int i, .int j, S => .ok (.bl (decide (j < i))) S
  | .ge, .int i, .int j, S => .ok (.bl (decide (j ≤ i))) S
  | .is_, x, .non, S => .ok (.bl (match x with | .non => true | _ => false)) S
  | .isn, x, .non, S => .ok (.bl (match x with | .non => false | _ => true)) S
  | .is_, .bl a, .bl b, S => .ok (.bl (a == b)) S
  | .isn, .bl a, .bl b, S => .ok (.bl (!(a == b))) S
  | .in_, x, y, S => match seqOf S y with
    | some xs => if flat x && allFlat xs then .ok (.bl (inF x xs)) S else .bad
    | none => .bad
  | .nin, x, y, S => match seqOf S y with
    | some xs => if flat x && allFlat xs then .ok (.bl (!inF x xs)) S else .bad
    | none => .bad
  | _, _, _, _ => .bad
def ixI (n : Nat) (i : Int) : Option Nat := match i with
  | .ofNat k => if Nat.blt k n then some k else none
  | .negSucc k => if Nat.ble (k + 1) n then some (n - (k + 1)) else none
def subS (x i : Vl) (S : Sto) : R Vl := match x, i with
  | .ref n, .int i => match S.get n with
    | some (.lst xs) => match (ixI xs.length i).bind fun j => xs[j]? with
      | some v => .ok v S
      | none => .bad
    | some (.rol xs) => match (ixI xs.length i).bind fun j => xs[j]? with
      | some v => .ok v S
      | none => .bad
    | some (.tup xs) => match (ixI xs.length i).bind fun j => xs[j]? with
      | some v => .ok v S
      | none => .bad
    | _ => .bad
  | .str s, .int i => match (ixI s.cps.toList.length i).bind fun j => s.cps.toList[j]? with
    | some c => if Nat.ble s.length lineN then .ok (.str ⟨#[c]⟩) S else .bad
    | none => .bad
  | _, _ => .bad
def sIxS (n d : Nat) : Option Int → Nat
  | none => d
  | some (.ofNat k) => min k n
  | some (.negSucc k) => n - (k + 1)
def cutL (xs : List Vl) (lo hi : Option Int) : List Vl := (xs.drop (sIxS xs.length 0 lo)).take (sIxS xs.length xs.length hi - sIxS xs.length 0 lo)
def cutS (x : Vl) (lo hi : Option Int) (S : Sto) : R Vl := match x with
  | .ref n => match S.get n with
    | some (.lst xs) => .ok (.ref S.n) (S.push (.lst (cutL xs lo hi)))
    | some (.rol xs) => .ok (.ref S.n) (S.push (.lst (cutL xs lo hi)))
    | _ => .bad
  | _ => .bad
def bt (S : Sto) : Vl → Option BT
  | .non => some .none
  | .bl _ => some .bool
  | .int _ => some .int
  | .str _ => some .str
  | .glo _ => none
  | .ref n => match S.get n with
    | some (.lst _) => some .list
    | some (.tup _) => some .tuple
    | some (.dK _) => some .dict
    | _ => none
def subBT : BT → BT → Bool
  | .bool, .int => true
  | .none, .none => true | .bool, .bool => true | .int, .int => true | .str, .str => true | .list, .list => true | .tuple, .tuple => true | .dict, .dict => true
  | _, _ => false
def anyBT (t : BT) : List BT → Bool
  | [] => false
  | u :: us => subBT t u || anyBT t us
def isum : List Int → Int
  | [] => 0
  | i :: r => i + isum r
def imax (a : Int) : List Int → Int
  | [] => a
  | i :: r => imax (if a < i then i else a) r
def imin (a : Int) : List Int → Int
  | [] => a
  | i :: r => imin (if i < a then i else a) r
def ins (a : Int) : List Int → List Int
  | [] => [a]
  | b :: r => if a ≤ b then a :: b :: r else b :: ins a r
def isort : List Int → List Int
  | [] => []
  | a :: r => ins a (isort r)
def icount (k : Int) : List Int → Nat
  | [] => 0
  | a :: r => if a == k then icount k r + 1 else icount k r
def band : List Bool → Bool
  | [] => true
  | b :: r => b && band r
def bor : List Bool → Bool
  | [] => false
  | b :: r => b || bor r
end MP
namespace MP
open PySem L2
mutual
def reprD : PyData → Str
  | .none => "None"
  | .bool b => if b then "True" else "False"
  | .int i => toString i
  | .str s => reprText s
  | .list ds => match ds with
    | [] => "[]"
    | _ => listText (reprs ds)
  | .tuple ds => tupleText (reprs ds)
  | .dict _ => "{}"
def reprs : List PyData → List Str
  | [] => []
  | d :: ds => reprD d :: reprs ds
end
mutual
def smallD : PyData → Bool
  | .int i => Nat.blt i.natAbs.log2 1920
  | .list ds => smallDs ds
  | .tuple ds => smallDs ds
  | .dict _ => false
  | _ => true
def smallDs : List PyData → Bool
  | [] => true
  | d :: ds => smallD d && smallDs ds
end
inductive Itr where
  | lst (n : Nat) | tup (n : Nat) | str (s : Str) | rng (lo : Int) (n : Nat) | enum (n : Nat) | zip (a b : Nat) | zipT (a b : Nat)
def lstAt (S : Sto) (n : Nat) : Option (List Vl) := match S.get n with
  | some (.lst xs) => some xs
  | some (.rol xs) => some xs
  | _ => none
def tupAt (S : Sto) (n : Nat) : Option (List Vl) := match S.get n with
  | some (.tup xs) => some xs
  | _ => none
/-- none: not here; some none: the end -/
def next : Itr → Nat → Sto → Option (Option (Vl × Sto))
  | .lst n, i, S => match lstAt S n with
    | some xs => match xs[i]? with
      | some v => some (some (v, S))
      | none => some none
    | none => none
  | .tup n, i, S => match tupAt S n with
    | some xs => match xs[i]? with
      | some v => some (some (v, S))
      | none => some none
    | none => none
  | .str s, i, S => match s.cps.toList[i]? with
    | some c => some (some (.str ⟨#[c]⟩, S))
    | none => some none
  | .rng lo n, i, S => if Nat.blt i n then some (some (.int (lo + i), S)) else some none
  | .enum n, i, S => match lstAt S n with
    | some xs => match xs[i]? with
      | some v => some (some (.ref S.n, S.push (.tup [.int i, v])))
      | none => some none
    | none => none
  | .zip a b, i, S => match lstAt S a, lstAt S b with
    | some xs, some ys => match xs[i]?, ys[i]? with
      | some v, some w => some (some (.ref S.n, S.push (.tup [v, w])))
      | _, _ => some none
    | _, _ => none
  | .zipT a b, i, S => match tupAt S a, tupAt S b with
    | some xs, some ys => match xs[i]?, ys[i]? with
      | some v, some w => some (some (.ref S.n, S.push (.tup [v, w])))
      | _, _ => some none
    | _, _ => none
def isTup (S : Sto) : Vl → Option Nat
  | .ref n => match S.get n with
    | some (.tup _) => some n
    | _ => none
  | _ => none
def seqItr (S : Sto) : Vl → Option Itr
  | .str s => some (.str s)
  | .ref n => match S.get n with
    | some (.lst _) => some (.lst n)
    | some (.rol _) => some (.lst n)
    | some (.tup _) => some (.tup n)
    | _ => none
  | _ => none
def isLst (S : Sto) : Vl → Option Nat
  | .ref n => match S.get n with
    | some (.lst _) => some n
    | some (.rol _) => some n
    | _ => none
  | _ => none
def bnd (i : Int) : Bool := decide (-(2 ^ 62) ≤ i) && decide (i < 2 ^ 62)
def rngOf : List Vl → Option (Int × Nat)
  | [.int j] => if bnd j then some (0, j.toNat) else none
  | [.int i, .int j] => if bnd i && bnd j then some (i, (j - i).toNat) else none
  | _ => none
def LF : Nat := 100000000
def lcLoop (as : Vl → Sto → R Env) (tt : Env → Sto → R Bool) (el : Env → Sto → R Vl) (J : Itr) : Nat → Nat → List Vl → Sto → R Vl
  | 0, _, _, _ => .bad
  | f + 1, i, acc, S => match next J i S with
    | none => .bad
    | some none => newL acc.reverse S
    | some (some (v, S1)) => match as v S1 with
      | .ok ρ S2 => match tt ρ S2 with
        | .ok true S3 => match el ρ S3 with
          | .ok y S4 => lcLoop as tt el J f (i + 1) (y :: acc) S4
          | _ => .bad
        | .ok false S3 => lcLoop as tt el J f (i + 1) acc S3
        | _ => .bad
      | _ => .bad
def wipe (ρ : Env) : List Nat → Env
  | [] => ρ
  | v :: vs => (wipe ρ vs).set v none
def truth (S : Sto) : Vl → Option Bool
  | .non => some false
  | .bl b => some b
  | .int i => some (i != 0)
  | .str s => if Nat.ble s.length lineN then some ((s.length : Int) != 0) else none
  | .glo _ => none
  | .ref n => match S.get n with
    | some (.lst xs) => some (!xs.isEmpty)
    | some (.rol xs) => some (!xs.isEmpty)
    | some (.tup xs) => some (!xs.isEmpty)
    | some (.dK xs) => some (!xs.isEmpty)
    | none => none
def lenS (S : Sto) : Vl → Option Nat
  | .str s => if Nat.ble s.length lineN then some s.length else none
  | .ref n => match S.get n with
    | some (.lst xs) => some xs.length
    | some (.rol xs) => some xs.length
    | some (.tup xs) => some xs.length
    | _ => none
  | _ => none
def biS : Bi → List Vl → Sto → R Vl
  | .len, [x], S => match lenS S x with
    | some n => .ok (.int n) S
    | none => .bad
  | .max2, [.int i, .int j], S => .ok (.int (if i < j then j else i)) S
  | .min2, [.int i, .int j], S => .ok (.int (if j < i then j else i)) S
  | .abs, [.int i], S => .ok (.int (if i < 0 then -i else i)) S
  | .int1, [.int i], S => .ok (.int i) S
  | .int1, [.bl b], S => .ok (.int (if b then 1 else 0)) S
  | .all, [x], S => match (lstOf S x).bind blsOf with
    | some bs => .ok (.bl (band bs)) S
    | none => .bad
  | .any, [x], S => match (lstOf S x).bind blsOf with
    | some bs => .ok (.bl (bor bs)) S
    | none => .bad
  | .sum, [x], S => match (lstOf S x).bind intsOf with
    | some ns => .ok (.int (isum ns)) S
    | none => .bad
  | .max1, [x], S => match (lstOf S x).bind intsOf with
    | some (n :: ns) => .ok (.int (imax n ns)) S
    | _ => .bad
  | .min1, [x], S => match (lstOf S x).bind intsOf with
    | some (n :: ns) => .ok (.int (imin n ns)) S
    | _ => .bad
  | .sorted, [x], S => match (lstOf S x).bind intsOf with
    | some ns => .ok (.ref S.n) (S.push (.lst ((isort ns).map .int)))
    | none => .bad
  | .list, [x], S => match seqOf S x with
    | some xs => .ok (.ref S.n) (S.push (.lst xs))
    | none => .bad
  | .tuple, [x], S => match lstOf S x with
    | some xs => .ok (.ref S.n) (S.push (.tup xs))
    | none => match seqOf S x with
      | some _ => .ok x S
      | none => .bad
  | .repr, [x], S => match dat 60 S x with
    | some d => if smallD d && Nat.ble (reprD d).length lineN then .ok (.str (reprD d)) S else .bad
    | none => .bad
  | _, _, _ => .bad
def mtS : Mt → Vl → List Vl → Sto → R Vl
  | .append, .ref n, [y], S => match S.get n with
    | some (.lst xs) => if Nat.blt xs.length lineN then .ok .non (S.set n (.lst (xs ++ [y]))) else .bad
    | _ => .bad
  | .insert, .ref n, [.int i, y], S => match S.get n with
    | some (.lst xs) => if Nat.blt xs.length lineN && (decide (0 ≤ i) && decide (i < 2 ^ 63)) then .ok .non (S.set n (.lst (xs.take i.toNat ++ [y] ++ xs.drop i.toNat))) else .bad
    | _ => .bad
  | .count, x, [.int k], S => match (lstOf S x).bind intsOf with
    | some ns => .ok (.int (icount k ns)) S
    | none => .bad
  | .bitLength, .int i, [], S => .ok (.int (Builtin.Int.intBits i : Nat)) S
  | .pop0, .ref n, [], S => match S.get n with
    | some (.lst xs) => match xs[xs.length - 1]? with
      | some y => .ok y (S.set n (.lst xs.dropLast))
      | none => .bad
    | _ => .bad
  | _, _, _, _ => .bad
def mtTy (m : Mt) (S : Sto) (x : Vl) : Bool := match m with
  | .bitLength => match x with
    | .int _ => true
    | _ => false
  | _ => (lstOf S x).isSome
def setS (o i v : Vl) (S : Sto) : R Unit := match o, i with
  | .ref n, .int k => match S.get n with
    | some (.lst xs) => match ixI xs.length k with
      | some j => .ok () (S.set n (.lst (xs.set j v)))
      | none => .bad
    | _ => .bad
  | _, _ => .bad
def mapAt (vs : List Vl) : List Nat → Option (List Vl)
  | [] => some []
  | i :: is => match vs[i]?, mapAt vs is with
    | some v, some r => some (v :: r)
    | _, _ => none
def isBad : E → Bool
  | .bad => true
  | _ => false
def partR (b : Bool) (S : Sto) (r : R Vl) : R (Option Int) := match b with
  | true => .ok none S
  | false => r.bind fun x S1 => match x with
    | .int i => .ok (some i) S1
    | _ => .bad
def blR : Vl → Sto → R Bool
  | .bl k, S => .ok k S
  | _, _ => .bad
section
variable (cl : Nat → List Vl → Sto → R Vl)
mutual
def ev : E → Env → Sto → R Vl
  | .bad, _, _ => .bad
  | .non, _, S => .ok .non S
  | .bl b, _, S => .ok (.bl b) S
  | .int i, _, S => .ok (.int i) S
  | .str s, _, S => .ok (.str ⟨s.toArray⟩) S
  | .glo k, _, S => .ok (.glo k) S
  | .var i, ρ, S => match ρ[i]? with
    | some (some v) => .ok v S
    | _ => .bad
  | .bin o a b, ρ, S => (ev a ρ S).bind fun x S1 => (ev b ρ S1).bind fun y S2 => binS o x y S2
  | .neg a, ρ, S => (ev a ρ S).bind fun x S1 => match x with
    | .int i => .ok (.int (-i)) S1
    | _ => .bad
  | .not a, ρ, S => (ev a ρ S).bind fun x S1 => match truth S1 x with
    | some b => .ok (.bl (!b)) S1
    | none => .bad
  | .and a b, ρ, S => (ev a ρ S).bind fun x S1 => match x with
    | .bl true => ev b ρ S1
    | .bl false => .ok (.bl false) S1
    | _ => .bad
  | .or a b, ρ, S => (ev a ρ S).bind fun x S1 => match x with
    | .bl true => .ok (.bl true) S1
    | .bl false => ev b ρ S1
    | _ => .bad
  | .cmp c a b, ρ, S => (ev a ρ S).bind fun x S1 => (ev b ρ S1).bind fun y S2 => cmpS c x y S2
  | .chn c d a b e, ρ, S => (ev a ρ S).bind fun x S1 => (ev b ρ S1).bind fun y S2 => (cmpS c x y S2).bind fun z S3 => match z with
    | .bl true => (ev e ρ S3).bind fun u S4 => cmpS d y u S4
    | .bl false => .ok (.bl false) S3
    | _ => .bad
  | .ite c a b, ρ, S => (tst c ρ S).bind fun k S1 => if k then ev a ρ S1 else ev b ρ S1
  | .lst es, ρ, S => (evs es ρ S).bind fun vs S1 => newL vs S1
  | .tup es, ρ, S => (evs es ρ S).bind fun vs S1 => newT vs S1
  | .sub a b, ρ, S => (ev a ρ S).bind fun x S1 => (ev b ρ S1).bind fun y S2 => subS x y S2
  | .cut a lo hi, ρ, S => (ev a ρ S).bind fun x S1 => (partR (isBad lo) S1 (ev lo ρ S1)).bind fun l S2 => (partR (isBad hi) S2 (ev hi ρ S2)).bind fun h S3 => cutS x l h S3
  | .call f es dv, ρ, S => (evs es ρ S).bind fun vs S1 => cl f (vs ++ dv) S1
  | .callK f es ks pm, ρ, S => (evs es ρ S).bind fun vs S1 => (evs ks ρ S1).bind fun ws S2 => match mapAt (vs ++ ws) pm with
    | some us => cl f us S2
    | none => .bad
  | .bi b es, ρ, S => (evs es ρ S).bind fun vs S1 => biS b vs S1
  | .isi a ts _, ρ, S => (ev a ρ S).bind fun x S1 => match bt S1 x with
    | some t => .ok (.bl (anyBT t ts)) S1
    | none => .bad
  | .mt m a es, ρ, S => (ev a ρ S).bind fun x S1 => if mtTy m S1 x then (evs es ρ S1).bind fun vs S2 => mtS m x vs S2 else .bad
  | .lc own tg it ifs elt, ρ, S => (itr it ρ S).bind fun J S1 => lcLoop (fun v S' => asn tg v (wipe ρ own) S') (fun ρ' S' => tst ifs ρ' S') (fun ρ' S' => ev elt ρ' S') J LF 0 [] S1
  | .dict0, _, S => .ok (.ref S.n) (S.push (.dK []))
  | .lrg es, ρ, S => (evs es ρ S).bind fun vs S1 => match rngOf vs with
    | some (lo, n) => if Nat.ble n lineN then .ok (.ref S1.n) (S1.push (.lst ((List.range n).map fun i => .int (lo + (i : Nat))))) else .bad
    | none => .bad
termination_by structural x => x
def evs : Es → Env → Sto → R (List Vl)
  | .nil, _, S => .ok [] S
  | .cons e r, ρ, S => (ev e ρ S).bind fun v S1 => (evs r ρ S1).bind fun vs S2 => .ok (v :: vs) S2
termination_by structural x => x
def tst : Tt → Env → Sto → R Bool
  | .yes, _, S => .ok true S
  | .not a, ρ, S => (tst a ρ S).bind fun b S1 => .ok (!b) S1
  | .and a b, ρ, S => (tst a ρ S).bind fun k S1 => if k then tst b ρ S1 else .ok false S1
  | .or a b, ρ, S => (tst a ρ S).bind fun k S1 => if k then .ok true S1 else tst b ρ S1
  | .cmp c a b, ρ, S => (ev a ρ S).bind fun x S1 => (ev b ρ S1).bind fun y S2 => (cmpS c x y S2).bind fun z S3 => blR z S3
  | .chn c d a b e, ρ, S => (ev a ρ S).bind fun x S1 => (ev b ρ S1).bind fun y S2 => (cmpS c x y S2).bind fun z S3 => match z with
    | .bl true => (ev e ρ S3).bind fun u S4 => (cmpS d y u S4).bind fun q S5 => blR q S5
    | .bl false => .ok false S3
    | _ => .bad
  | .val e, ρ, S => (ev e ρ S).bind fun x S1 => match truth S1 x with
    | some b => .ok b S1
    | none => .bad
termination_by structural x => x
def asn : Tg → Vl → Env → Sto → R Env
  | .name i, v, ρ, S => .ok (ρ.set i (some v)) S
  | .tup ts, v, ρ, S => match seqOf S v with
    | some vs => if Nat.beq vs.length ts.len then asns ts vs ρ S else .bad
    | none => .bad
  | .sub o i, v, ρ, S => (ev o ρ S).bind fun x S1 => (ev i ρ S1).bind fun y S2 => (setS x y v S2).bind fun _ S3 => .ok ρ S3
termination_by structural x => x
def asns : Tgs → List Vl → Env → Sto → R Env
  | .nil, [], ρ, S => .ok ρ S
  | .cons t r, v :: vs, ρ, S => (asn t v ρ S).bind fun ρ1 S1 => asns r vs ρ1 S1
  | _, _, _, _ => .bad
termination_by structural x => x
def itr : It → Env → Sto → R Itr
  | .seq e, ρ, S => (ev e ρ S).bind fun x S1 => match seqItr S1 x with
    | some J => .ok J S1
    | none => .bad
  | .rng es, ρ, S => (evs es ρ S).bind fun vs S1 => match rngOf vs with
    | some (lo, n) => .ok (.rng lo n) S1
    | none => .bad
  | .enum e, ρ, S => (ev e ρ S).bind fun x S1 => match isLst S1 x with
    | some n => .ok (.enum n) S1
    | none => .bad
  | .zip a b, ρ, S => (ev a ρ S).bind fun x S1 => (ev b ρ S1).bind fun y S2 => match isLst S2 x, isLst S2 y with
    | some n, some m => .ok (.zip n m) S2
    | _, _ => match isTup S2 x, isTup S2 y with
      | some n, some m => .ok (.zipT n m) S2
      | _, _ => .bad
termination_by structural x => x
end
end
def R.xs (ρ : Env) (r : R Vl) (f : Vl → Sto → XS) : XS := match r with
  | .ok v S => f v S
  | .exc k v S => .exc k v ρ S
  | .bad => .bad
def forLoop (as : Vl → Env → Sto → R Env) (bd : Env → Sto → XS) (J : Itr) : Nat → Nat → Env → Sto → XS
  | 0, _, _, _ => .bad
  | f + 1, i, ρ, S => match next J i S with
    | none => .bad
    | some none => .fl (.nx ρ) S
    | some (some (v, S1)) => match as v ρ S1 with
      | .ok ρ1 S2 => match bd ρ1 S2 with
        | .fl (.nx ρ2) S3 => forLoop as bd J f (i + 1) ρ2 S3
        | .fl (.ct ρ2) S3 => forLoop as bd J f (i + 1) ρ2 S3
        | .fl (.bk ρ2) S3 => .fl (.nx ρ2) S3
        | .fl (.rt v) S3 => .fl (.rt v) S3
        | .exc k v ρ S => .exc k v ρ S
        | .bad => .bad
      | _ => .bad
def whlLoop (tt : Env → Sto → R Bool) (bd : Env → Sto → XS) : Nat → Env → Sto → XS
  | 0, _, _ => .bad
  | f + 1, ρ, S => match tt ρ S with
    | .ok true S1 => match bd ρ S1 with
      | .fl (.nx ρ2) S3 => whlLoop tt bd f ρ2 S3
      | .fl (.ct ρ2) S3 => whlLoop tt bd f ρ2 S3
      | .fl (.bk ρ2) S3 => .fl (.nx ρ2) S3
      | .fl (.rt v) S3 => .fl (.rt v) S3
      | .exc k v ρ S => .exc k v ρ S
      | .bad => .bad
    | .ok false S1 => .fl (.nx ρ) S1
    | .exc k v S => .exc k v ρ S
    | .bad => .bad
section
variable (cl : Nat → List Vl → Sto → R Vl)
mutual
def ex : Sm → Env → Sto → XS
  | .bad, _, _ => .bad
  | .pass, ρ, S => .fl (.nx ρ) S
  | .expr e, ρ, S => (ev cl e ρ S).xs ρ fun _ S1 => .fl (.nx ρ) S1
  | .asg t e, ρ, S => (ev cl e ρ S).xs ρ fun v S1 => match asn cl t v ρ S1 with
    | .ok ρ1 S2 => .fl (.nx ρ1) S2
    | _ => .bad
  | .par i j a b, ρ, S => (ev cl a ρ S).xs ρ fun v S1 => (ev cl b ρ S1).xs ρ fun w S2 => .fl (.nx ((ρ.set i (some v)).set j (some w))) S2
  | .ret e, ρ, S => (ev cl e ρ S).xs ρ fun v S1 => .fl (.rt v) S1
  | .retN, _, S => .fl (.rt .non) S
  | .ite c a b, ρ, S => match tst cl c ρ S with
    | .ok true S1 => exs a ρ S1
    | .ok false S1 => exs b ρ S1
    | .exc k v S => .exc k v ρ S
    | .bad => .bad
  | .forr t it b, ρ, S => match itr cl it ρ S with
    | .ok J S1 => forLoop (fun v ρ' S' => asn cl t v ρ' S') (fun ρ' S' => exs b ρ' S') J LF 0 ρ S1
    | .exc k v S => .exc k v ρ S
    | .bad => .bad
  | .whl c b, ρ, S => whlLoop (fun ρ' S' => tst cl c ρ' S') (fun ρ' S' => exs b ρ' S') LF ρ S
  | .brk, ρ, S => .fl (.bk ρ) S
  | .cnt, ρ, S => .fl (.ct ρ) S
termination_by structural x => x
def exs : Ss → Env → Sto → XS
  | .nil, ρ, S => .fl (.nx ρ) S
  | .cons s r, ρ, S => match ex s ρ S with
    | .fl (.nx ρ1) S1 => exs r ρ1 S1
    | x => x
termination_by structural x => x
end
end
def start (nn : Nat) (vs : List Vl) : Env := vs.map some ++ List.replicate (nn - vs.length) none
def calls (T : List Fn) : Nat → Nat → List Vl → Sto → R Vl
  | 0, _, _, _ => .bad
  | d + 1, f, vs, S => match T[f]? with
    | none => .bad
    | some F => if vs.length == F.np then (match exs (calls T d) F.body (start F.nn vs) S with
        | .fl (.nx _) S1 => .ok .non S1
        | .fl (.rt v) S1 => .ok v S1
        | .exc k v _ S1 => .exc k v S1
        | _ => .bad) else .bad
end MP
namespace MP
open PySem PySem.Spec PyProof.Rows L2
abbrev Loc := Nat → Option Addr
def VR (A : Nat → Addr) (φ : Loc) : Vl → V → Prop
  | .non, x => x = .non
  | .bl b, x => x = .bl b
  | .int i, x => x = .int i
  | .str s, x => x = .str s
  | .ref n, x => ∃ a, φ n = some a ∧ x = .ref a
  | .glo k, x => x = .ref (A k)
abbrev VRs (A : Nat → Addr) (φ : Loc) : List Vl → List V → Prop := Paired (VR A φ)
abbrev KRs (A : Nat → Addr) (φ : Loc) : List (Key × Vl) → List (Key × V) → Prop := Paired fun p q => p.1 = q.1 ∧ VR A φ p.2 q.2
def Ob.trk : Ob → Bool
  | .rol _ => false
  | _ => true
def ObR (K : PySem.W.Frag) (A : Nat → Addr) (φ : Loc) (H : Hp) (a : Addr) : Ob → Prop
  | .lst xs => ∃ ys, VRs A φ xs ys ∧ H a = some (.lst ys)
  | .tup xs => ∃ ys, VRs A φ xs ys ∧ H a = some (.tup ys)
  | .rol xs => ∃ ys, VRs A φ xs ys ∧ ∃ o, H a = some (.frz o (.lst ys))
  | .dK xs => ∃ ys, KRs A φ xs ys ∧ H a = some (.dK ys)
def Trk (S : Sto) (i : Nat) : Prop := ∃ o, S.get i = some o ∧ o.trk = true
structure Rep (K : PySem.W.Frag) (A : Nat → Addr) (φ : Loc) (S : Sto) (H : Hp) : Prop where
  dom : ∀ i a, φ i = some a → ∃ o, S.get i = some o
  obj : ∀ i o, S.get i = some o → ∃ a, φ i = some a ∧ ObR K A φ H a o
  inj : ∀ i j a, φ i = some a → φ j = some a → Trk S i → Trk S j → i = j
structure Ext (φ : Loc) (H : Hp) (φ' : Loc) (H' : Hp) : Prop where
  le : ∀ i a, φ i = some a → φ' i = some a
  new : ∀ i a, φ' i = some a → φ i = none → H a = none
  keep : ∀ a u, H a = some u → (∀ i, φ i ≠ some a) → H' a = some u
  old : ∀ a, H' a = none → H a = none
section
variable {K : PySem.W.Frag} {A : Nat → Addr} {φ φ1 φ2 : Loc} {H H1 H2 : Hp} {S : Sto}
theorem Ext.refl : Ext φ H φ H := ⟨fun _ _ h => h, fun _ _ h h' => (by rw [h] at h'; cases h'), fun _ _ h _ => h, fun _ h => h⟩
theorem Ext.trans (e : Ext φ H φ1 H1) (f : Ext φ1 H1 φ2 H2) : Ext φ H φ2 H2 where
  le := fun i a h => f.le i a (e.le i a h)
  new := fun i a h h0 => by
    cases q : φ1 i with
    | none => exact e.old a (f.new i a h q)
    | some b =>
      have := f.le i b q
      rw [h] at this
      cases this
      exact e.new i a q h0
  keep := fun a u h n => by
    refine f.keep a u (e.keep a u h n) fun i q => ?_
    cases q0 : φ i with
    | none =>
      have := e.new i a q q0
      rw [h] at this
      cases this
    | some b =>
      have := e.le i b q0
      rw [q] at this
      cases this
      exact n i q0
  old := fun a h => e.old a (f.old a h)
theorem VR.ext (e : ∀ i a, φ i = some a → φ1 i = some a) {v : Vl} {x : V} (h : VR A φ v x) : VR A φ1 v x := by
  cases v with
  | ref n =>
    obtain ⟨a, h1, h2⟩ := h
    exact ⟨a, e n a h1, h2⟩
  | _ => exact h
theorem Paired.imp2 {α β : Type} {F G : α → β → Prop} (f : ∀ a b, F a b → G a b) : ∀ {l₁ : List α} {l₂ : List β}, Paired F l₁ l₂ → Paired G l₁ l₂
  | _, _, .nil => .nil
  | _, _, .cons r t => .cons (f _ _ r) (Paired.imp2 f t)
theorem VRs.ext (e : ∀ i a, φ i = some a → φ1 i = some a) {v : List Vl} {x : List V} (h : VRs A φ v x) : VRs A φ1 v x := Paired.imp2 (fun _ _ q => q.ext e) h
theorem KRs.ext (e : ∀ i a, φ i = some a → φ1 i = some a) {v : List (Key × Vl)} {x : List (Key × V)} (h : KRs A φ v x) : KRs A φ1 v x := Paired.imp2 (fun _ _ q => ⟨q.1, q.2.ext e⟩) h
theorem ObR.ext (e : ∀ i a, φ i = some a → φ1 i = some a) {a : Addr} {o : Ob} (h : ObR K A φ H a o) (hk : ∀ u, H a = some u → H1 a = some u) : ObR K A φ1 H1 a o := by
  cases o with
  | lst xs => obtain ⟨ys, r, q⟩ := h; exact ⟨ys, VRs.ext e r, hk _ q⟩
  | tup xs => obtain ⟨ys, r, q⟩ := h; exact ⟨ys, VRs.ext e r, hk _ q⟩
  | dK xs => obtain ⟨ys, r, q⟩ := h; exact ⟨ys, KRs.ext e r, hk _ q⟩
  | rol xs =>
    obtain ⟨ys, r, o, q⟩ := h
    exact ⟨ys, VRs.ext e r, o, hk _ q⟩
theorem ObR.some_of {a : Addr} {o : Ob} (h : ObR K A φ H a o) (t : o.trk = true) : ∃ u, H a = some u ∧ ∀ o' v, u ≠ .frz o' v := by
  cases o with
  | lst xs => obtain ⟨ys, r, q⟩ := h; exact ⟨_, q, fun _ _ z => by cases z⟩
  | tup xs => obtain ⟨ys, r, q⟩ := h; exact ⟨_, q, fun _ _ z => by cases z⟩
  | dK xs => obtain ⟨ys, r, q⟩ := h; exact ⟨_, q, fun _ _ z => by cases z⟩
  | rol xs => cases t
theorem ObR.held {a : Addr} {o : Ob} (h : ObR K A φ H a o) : ∃ u, H a = some u := by
  cases o with
  | lst xs => obtain ⟨ys, r, q⟩ := h; exact ⟨_, q⟩
  | tup xs => obtain ⟨ys, r, q⟩ := h; exact ⟨_, q⟩
  | dK xs => obtain ⟨ys, r, q⟩ := h; exact ⟨_, q⟩
  | rol xs => obtain ⟨ys, r, o, q⟩ := h; exact ⟨_, q⟩
/-- what is not held is not known -/
theorem Rep.not_in (r : Rep K A φ S H) {p : Addr} (hp : H p = none) (i : Nat) : φ i ≠ some p := fun h => by
  obtain ⟨o, g⟩ := r.dom i p h
  obtain ⟨a, h1, h2⟩ := r.obj i o g
  rw [h] at h1; cases h1
  obtain ⟨u, hu⟩ := h2.held
  rw [hp] at hu; cases hu
/-- a new object -/
theorem Rep.push (r : Rep K A φ S H) {p : Addr} {u : HO} {o : Ob} (hp : H p = none) (ho : ∀ φ', (∀ i a, φ i = some a → φ' i = some a) → ObR K A φ' (upd H p u) p o) :
    ∃ φ', Ext φ H φ' (upd H p u) ∧ Rep K A φ' (S.push o) (upd H p u) ∧ φ' S.n = some p := by
  have hn : φ S.n = none := by
    cases q : φ S.n with
    | none => rfl
    | some a =>
      obtain ⟨o', g⟩ := r.dom _ _ q
      exact absurd (Sto.get_lt g) (Nat.lt_irrefl _)
  have le : ∀ i a, φ i = some a → (fun i => if i = S.n then some p else φ i) i = some a := fun i a h => by
    have : i ≠ S.n := fun e => by rw [e, hn] at h; cases h
    show (if i = S.n then some p else φ i) = some a
    rw [if_neg this]; exact h
  refine ⟨fun i => if i = S.n then some p else φ i, ⟨le, fun i a h h0 => ?_, fun a v h n => ?_, fun a h => ?_⟩, ⟨fun i a h => ?_, fun i q h => ?_, fun i j a h1 h2 t1 t2 => ?_⟩, by show (if S.n = S.n then some p else φ S.n) = some p; rw [if_pos rfl]⟩
  · have h : (if i = S.n then some p else φ i) = some a := h
    by_cases e : i = S.n
    · rw [if_pos e] at h; cases h; exact hp
    · rw [if_neg e, h0] at h; cases h
  · have : a ≠ p := fun e => by rw [e, hp] at h; cases h
    rw [upd_ne this]; exact h
  · by_cases e : a = p
    · rw [e]; exact hp
    · rw [upd_ne e] at h; exact h
  · have h : (if i = S.n then some p else φ i) = some a := h
    rw [Sto.get_push]
    by_cases e : i = S.n
    · exact ⟨o, if_pos e⟩
    · rw [if_neg e] at h ⊢
      exact r.dom _ _ h
  · rw [Sto.get_push] at h
    by_cases e : i = S.n
    · rw [if_pos e] at h; cases h
      exact ⟨p, by show (if i = S.n then some p else φ i) = some p; rw [if_pos e], ho _ le⟩
    · rw [if_neg e] at h
      obtain ⟨a, h1, h2⟩ := r.obj i q h
      refine ⟨a, le i a h1, h2.ext le fun v hv => ?_⟩
      have : a ≠ p := fun e => by rw [e, hp] at hv; cases hv
      rw [upd_ne this]; exact hv
  · have h1 : (if i = S.n then some p else φ i) = some a := h1
    have h2 : (if j = S.n then some p else φ j) = some a := h2
    have noP : ∀ k, k ≠ S.n → φ k = some p → Trk (S.push o) k → False := fun k hk hkp ⟨o', g, t⟩ => by
      rw [Sto.get_push, if_neg hk] at g
      obtain ⟨b, hb, ob⟩ := r.obj k o' g
      rw [hkp] at hb; cases hb
      obtain ⟨u', hu, _⟩ := ob.some_of t
      rw [hp] at hu; cases hu
    have back : ∀ k, k ≠ S.n → Trk (S.push o) k → Trk S k := fun k hk ⟨o', g, t⟩ => by
      rw [Sto.get_push, if_neg hk] at g
      exact ⟨o', g, t⟩
    by_cases e1 : i = S.n
    · by_cases e2 : j = S.n
      · rw [e1, e2]
      · rw [if_pos e1] at h1; cases h1
        rw [if_neg e2] at h2
        exact (noP j e2 h2 t2).elim
    · rw [if_neg e1] at h1
      by_cases e2 : j = S.n
      · rw [if_pos e2] at h2; cases h2
        exact (noP i e1 h1 t1).elim
      · rw [if_neg e2] at h2
        exact r.inj i j a h1 h2 (back i e1 t1) (back j e2 t2)
/-- an object written -/
theorem Rep.write (r : Rep K A φ S H) {n : Nat} {a : Addr} {o o' : Ob} {u : HO} (hg : S.get n = some o) (ht : o.trk = true) (ht' : o'.trk = true) (ha : φ n = some a) (ho : ObR K A φ (upd H a u) a o') :
    Ext φ H φ (upd H a u) ∧ Rep K A φ (S.set n o') (upd H a u) := by
  obtain ⟨a', ha', ob⟩ := r.obj n o hg
  rw [ha] at ha'; cases ha'
  obtain ⟨v, hv, nf⟩ := ob.some_of ht
  refine ⟨⟨fun _ _ h => h, fun i b h h0 => (by rw [h] at h0; cases h0), fun b w h ni => ?_, fun b h => ?_⟩, ⟨fun i b h => ?_, fun i q h => ?_, fun i j b h1 h2 t1 t2 => ?_⟩⟩
  · have : b ≠ a := fun e => ni n (by rw [e]; exact ha)
    rw [upd_ne this]; exact h
  · by_cases e : b = a
    · rw [e, upd_same] at h; cases h
    · rw [upd_ne e] at h; exact h
  · rw [Sto.get_set]
    by_cases e : n = i ∧ n < S.n
    · exact ⟨o', if_pos e⟩
    · rw [if_neg e]
      exact r.dom i b h
  · rw [Sto.get_set] at h
    by_cases e : n = i
    · rw [if_pos ⟨e, Sto.get_lt hg⟩] at h; cases h
      subst e
      exact ⟨a, ha, ho⟩
    · rw [if_neg fun z => e z.1] at h
      obtain ⟨b, h1, h2⟩ := r.obj i q h
      refine ⟨b, h1, ?_⟩
      by_cases eb : b = a
      · subst eb
        by_cases tq : q.trk = true
        · exact absurd (r.inj n i b ha h1 ⟨o, hg, ht⟩ ⟨q, h, tq⟩) e
        · cases q with
          | rol xs =>
            obtain ⟨ys, r1, o2, r2⟩ := h2
            rw [hv] at r2
            exact absurd (Option.some.inj r2) (nf _ _)
          | _ => exact absurd rfl tq
      · exact h2.ext (fun _ _ z => z) fun w hw => by rw [upd_ne eb]; exact hw
  · have back : ∀ k, Trk (S.set n o') k → Trk S k := fun k ⟨q, g, t⟩ => by
      rw [Sto.get_set] at g
      by_cases e : n = k
      · rw [← e]; exact ⟨o, hg, ht⟩
      · rw [if_neg fun z => e z.1] at g
        exact ⟨q, g, t⟩
    exact r.inj i j b h1 h2 (back i t1) (back j t2)
end
structure FnG (P : Program) (w : World) (K : PySem.W.Frag) (mg : Str → Option Value) (base : Heap) (k : Nat) (f : Addr) (fd : FuncData) (ps : List Str) (sp : Sp) : Prop where
  len : ∀ vs H Q E, sp vs H Q E → vs.length = ps.length
  run : ∀ (A : Around) (outer : List PySem.Env) (s : Shared) (H : Hp) (args : Args) (us : List Value) (vs : List V) (Q : VK) (E : XK),
    Room k A → A.guards = some [] → Env0 P w K mg base A outer s H → BindsTo s fd args (ps.zip us) → Vals vs us → sp vs H Q E →
      codeAny (model P w) A (.call (.ref f) args) (CR (L2.CX P w) outer P w H s Q E) s
theorem FnG.mono {P : Program} {w : World} {K : PySem.W.Frag} {mg : Str → Option Value} {base : Heap} {j k : Nat} {f : Addr} {fd : FuncData} {ps : List Str} {sp : Sp}
    (F : FnG P w K mg base j f fd ps sp) (h : j ≤ k) : FnG P w K mg base k f fd ps sp :=
  ⟨F.len, fun A outer s H args us vs Q E hr => F.run A outer s H args us vs Q E (Room.mono hr h)⟩
/-- a def keeps its promise if its body does -/
theorem FnG.of {P : Program} {w : World} {K : PySem.W.Frag} {mg : Str → Option Value} {base : Heap} {k : Nat} {f : Addr} {fd : FuncData} {x qual : Str} {params : Arguments} {body : List Stmt} {scope : Scope} {dvs : List V} {kws : List (Str × V)}
    {N ps : List Str} {sp : Sp} (F : FunD K x qual params body scope dvs kws f fd) (sc : FnScope N ps scope) (len : ∀ vs H Q E, sp vs H Q E → vs.length = ps.length)
    (hb : ∀ (cdv : Value) (A : Around) (outer : List PySem.Env) (s : Shared) (H : Hp) (vs : List V) (Q : VK) (E : XK), Room k (A.deeper (envOfC qual scope s.heap.objs.size f cdv)) → A.guards = some [] → sp vs H Q E →
      ∃ t, PSs (cxOf (L2.CX P w) P w K mg base N qual scope f cdv A outer s H E) body t ∧ t { nx := fun _ H' => Q .non H', rt := Q } (L2.start N vs) H) :
    FnG P w K mg base (k + 1) f fd ps sp := by
  obtain ⟨oc, od, dV, kV, doc, pm, an, cdv, ct, osl, rfl, lk, hcd, _, _⟩ := F.ex
  constructor
  · exact len
  intro A outer s H args us vs Q E room hgd env0 binds rel want
  have kin : K.In s.heap := env0.mod.kin.keeps fun c ob hc => (env0.bs c ob hc).1
  have nolim : s.heap.NoLimit := env0.mod.nolimit.keeps fun c ob hc => (env0.bs c ob hc).1
  have two : ∀ y ∈ ps.zip us, scope.names.lookup y.1 = some .local ∨ (scope.names.lookup y.1 = some .cell ∧ ((cellsFrom (s.heap.objs.size + 1) scope.names []).lookup y.1).isSome = true) := by
    rintro ⟨n, v⟩ hy
    cases sc.par n (List.of_mem_zip hy).1 with
    | inl q => exact Or.inl q
    | inr q => exact Or.inr ⟨q, PySem.W.cellsFrom_some _ _ _ (Or.inl q)⟩
  apply codeAny_call_function room.depth (kin _ _ lk) rfl sc.co sc.gen rfl (PySem.W.codeRec_of kin hcd)
  apply binds
  apply wpAny_newFunctionEnv_cells sc.kind two
  intro env he s1 ic
  subst he
  constructor
  · exact nolim.keeps ic.toInCall.keep
  apply codeAny_func
  obtain ⟨t, ht, hq⟩ := hb cdv A outer s H vs Q E (Room.deeper room _) hgd want
  have J : Inv (cxOf (L2.CX P w) P w K mg base N qual scope f cdv A outer s H E) [] (L2.start N vs) H s1 := inv_start sc room.hd env0 (len _ _ _ _ want) rel ic
  refine wpAny_mono (ht.run [] s1 (L2.start N vs) H _ J hq) ?_ (fun e s' q => q)
  intro fl s' q
  have close : ∀ {σ2 : L2.St} {H2 : Hp} {v : V} {u : Value}, Inv (cxOf (L2.CX P w) P w K mg base N qual scope f cdv A outer s H E) [] σ2 H2 s' → RelV v u → Q v H2 → CE outer P w H s Q u s' := by
    intro σ2 H2 v u J2 rv qv
    exact ⟨v, H2, J2.os, J2.bare, J2.base, J2.hok, rv, qv⟩
  cases fl with
  | ret u =>
    obtain ⟨v, σ2, H2, J2, rv, qv⟩ := q
    exact close J2 rv qv
  | next =>
    obtain ⟨σ2, H2, J2, qv⟩ := q
    exact close (v := V.non) (u := Value.none) J2 rfl qv
  | brk =>
    obtain ⟨_, _, _, z⟩ := q
    cases z
  | cont =>
    obtain ⟨_, _, _, z⟩ := q
    cases z
section
variable {X : Cx} {k : Nat} {f : Addr} {fd : FuncData} {ps : List Str} {sp : Sp} {E : XK}
theorem run_G {pins : List (Addr × Obj)} {σ : L2.St} {H : Hp} {s : Shared} {Q : VK} {args : Args} {us : List Value} {vs : List V} (F : FnG X.prog X.w X.K X.mg X.base k f fd ps sp) (hr : Room k X.A) (hgd : X.A.guards = some [])
    (hx : ∀ (e : Value) (s' : Shared), L2.CX X.prog X.w X.stack H s E e s' → X.xe e s')
    (I : Inv X pins σ H s) (hb : BindsTo s fd args (ps.zip us)) (r : Vals vs us) (h : sp vs H Q E) : wpAny (model X.prog X.w) X.A (call (.ref f) args.pos args.kw) (EP X pins σ Q) X.xe s := by
  apply wpAny_call
  refine codeAny_mono (F.run X.A X.stack s H ⟨args.pos, args.kw⟩ us vs Q E hr hgd I.env0 hb r h) ?_
  intro q s' hq
  match q, hq with
  | .error e, hq => exact hx e s' hq
  | .ok (.ret u), hq => exact I.after hq
end
end MP
namespace MP
open PySem PySem.Spec PyProof.Rows L2
/-- what is wanted behind a run -/
def Post (K : PySem.W.Frag) (A : Nat → Addr) {α β : Type} (Rl : Loc → α → β → Prop) (φ : Loc) (H : Hp) (r : R α) (Q : β → Hp → Prop) (W : Value → Option Addr → Hp → Prop) : Prop := match r with
  | .ok v S' => ∀ φ' H' x, Ext φ H φ' H' → Rep K A φ' S' H' → Rl φ' v x → Q x H'
  | .exc k v S' => ∀ φ' H' x d, Ext φ H φ' H' → Rep K A φ' S' H' → VR A φ' v x → H' d = some (.xd [("value", x)]) → (∀ i, φ' i ≠ some d) → W (.ref (A k)) (some d) H'
  | .bad => False
section
variable {K : PySem.W.Frag} {A : Nat → Addr} {φ φ1 : Loc} {H H1 : Hp} {S : Sto} {W : Value → Option Addr → Hp → Prop}
theorem Post.from {α β : Type} {Rl : Loc → α → β → Prop} {r : R α} {Q : β → Hp → Prop} (h : Post K A Rl φ H r Q W) (e : Ext φ H φ1 H1) : Post K A Rl φ1 H1 r Q W := by
  cases r with
  | ok v S' => exact fun φ' H' x e' => h φ' H' x (e.trans e')
  | exc k v S' => exact fun φ' H' x d e' => h φ' H' x d (e.trans e')
  | bad => exact h
theorem Post.bind {α β γ δ : Type} {Rl : Loc → α → β → Prop} {Rm : Loc → γ → δ → Prop} {r : R α} {f : α → Sto → R γ} {Q : δ → Hp → Prop} {Q1 : β → Hp → Prop} (h : Post K A Rm φ H (r.bind f) Q W)
    (k : ∀ v S1 φ1 H1 x, Ext φ H φ1 H1 → Rep K A φ1 S1 H1 → Rl φ1 v x → Post K A Rm φ1 H1 (f v S1) Q W → Q1 x H1) : Post K A Rl φ H r Q1 W := by
  cases r with
  | ok v S' => exact fun φ' H' x e r l => k v S' φ' H' x e r l ((show Post K A Rm φ H (f v S') Q W from h).from e)
  | exc k v S' => exact h
  | bad => exact h
theorem Post.now {α β : Type} {Rl : Loc → α → β → Prop} {v : α} {x : β} {Q : β → Hp → Prop} (h : Post K A Rl φ H (.ok v S) Q W) (r : Rep K A φ S H) (l : Rl φ v x) : Q x H := h φ H x Ext.refl r l
theorem Post.push {o : Ob} {u : HO} {Q : VK} (h : Post K A (VR A) φ H (.ok (.ref S.n) (S.push o)) Q W) (r : Rep K A φ S H) {p : Addr} (hp : H p = none)
    (ho : ∀ φ', (∀ i a, φ i = some a → φ' i = some a) → ObR K A φ' (upd H p u) p o) : Q (.ref p) (upd H p u) := by
  obtain ⟨φ', e, r', q⟩ := r.push (o := o) hp ho
  exact h φ' _ _ e r' ⟨p, q, rfl⟩
theorem Post.write {o o' : Ob} {u : HO} {n : Nat} {a : Addr} {v : Vl} {x : V} {Q : VK} (h : Post K A (VR A) φ H (.ok v (S.set n o')) Q W) (r : Rep K A φ S H) (hg : S.get n = some o) (ht : o.trk = true) (ht' : o'.trk = true) (ha : φ n = some a)
    (ho : ObR K A φ (upd H a u) a o') (l : VR A φ v x) : Q x (upd H a u) := by
  obtain ⟨e, r'⟩ := r.write hg ht ht' ha ho
  exact h φ _ _ e r' l
theorem Paired.len {α β : Type} {F : α → β → Prop} : ∀ {l₁ : List α} {l₂ : List β}, Paired F l₁ l₂ → l₁.length = l₂.length
  | _, _, .nil => rfl
  | _, _, .cons _ t => congrArg Nat.succ (Paired.len t)
theorem Paired.app {α β : Type} {F : α → β → Prop} : ∀ {l₁ m₁ : List α} {l₂ m₂ : List β}, Paired F l₁ l₂ → Paired F m₁ m₂ → Paired F (l₁ ++ m₁) (l₂ ++ m₂)
  | _, _, _, _, .nil, h => h
  | _, _, _, _, .cons r t, h => .cons r (Paired.app t h)
theorem Paired.at1 {α β : Type} {F : α → β → Prop} : ∀ {l₁ : List α} {l₂ : List β} {i : Nat} {a : α}, Paired F l₁ l₂ → l₁[i]? = some a → ∃ b, l₂[i]? = some b ∧ F a b
  | _, _, _, _, .nil, e => by simp at e
  | _, _, 0, _, .cons r _, e => by simp at e; subst e; exact ⟨_, rfl, r⟩
  | _, _, i + 1, a, .cons _ t, e => by
    obtain ⟨b, h1, h2⟩ := Paired.at1 (i := i) (a := a) t (by simpa using e)
    exact ⟨b, by simpa using h1, h2⟩
theorem Paired.at0 {α β : Type} {F : α → β → Prop} {l₁ : List α} {l₂ : List β} {i : Nat} (h : Paired F l₁ l₂) (e : l₁[i]? = none) : l₂[i]? = none := by
  have := Paired.len h
  rw [List.getElem?_eq_none_iff] at e ⊢
  omega
theorem Paired.set1 {α β : Type} {F : α → β → Prop} {a : α} {b : β} (r : F a b) : ∀ {l₁ : List α} {l₂ : List β} (i : Nat), Paired F l₁ l₂ → Paired F (l₁.set i a) (l₂.set i b)
  | _, _, _, .nil => .nil
  | _, _, 0, .cons _ t => .cons r t
  | _, _, i + 1, .cons q t => .cons q (Paired.set1 r i t)
theorem Paired.tk {α β : Type} {F : α → β → Prop} : ∀ {l₁ : List α} {l₂ : List β} (i : Nat), Paired F l₁ l₂ → Paired F (l₁.take i) (l₂.take i)
  | _, _, 0, _ => by simp; exact .nil
  | _, _, i + 1, .nil => .nil
  | _, _, i + 1, .cons q t => .cons q (Paired.tk i t)
theorem Paired.dr {α β : Type} {F : α → β → Prop} : ∀ {l₁ : List α} {l₂ : List β} (i : Nat), Paired F l₁ l₂ → Paired F (l₁.drop i) (l₂.drop i)
  | _, _, 0, h => h
  | _, _, i + 1, .nil => .nil
  | _, _, i + 1, .cons q t => Paired.dr i t
theorem Paired.dl {α β : Type} {F : α → β → Prop} : ∀ {l₁ : List α} {l₂ : List β}, Paired F l₁ l₂ → Paired F l₁.dropLast l₂.dropLast
  | _, _, .nil => .nil
  | _, _, .cons q .nil => .nil
  | _, _, .cons q (.cons r t) => .cons q (Paired.dl (.cons r t))
theorem Paired.rv {α β : Type} {F : α → β → Prop} {l₁ : List α} {l₂ : List β} (h : Paired F l₁ l₂) : Paired F l₁.reverse l₂.reverse := by
  induction h with
  | nil => exact .nil
  | cons r _ ih =>
    rw [List.reverse_cons, List.reverse_cons]
    exact Paired.app ih (.cons r .nil)
theorem repL_rep {α β : Type} {F : Vl → β → Prop} {xs : List Vl} {ys : List β} (h : Paired F xs ys) : ∀ k : Nat, Paired F (repL xs k) (List.replicate k ys).flatten
  | 0 => .nil
  | k + 1 => by
    rw [List.replicate_succ, List.flatten_cons]
    exact Paired.app h (repL_rep (α := α) h k)
theorem line_eq : sizeLine = lineN := rfl
/-- what a value that is a number, a text .. stands for -/
theorem VR.ref_of {n : Nat} {x : V} {o : Ob} (r : Rep K A φ S H) (v : VR A φ (.ref n) x) (g : S.get n = some o) : ∃ a, x = .ref a ∧ φ n = some a ∧ ObR K A φ H a o := by
  obtain ⟨a, h1, h2⟩ := v
  obtain ⟨b, h3, h4⟩ := r.obj n o g
  rw [h1] at h3; cases h3
  exact ⟨a, h2, h1, h4⟩
theorem seq_sq {a : Addr} {xs : List Vl} (h : ObR K A φ H a (.lst xs)) : ∃ ys, VRs A φ xs ys ∧ SqL K H a ys := by
  obtain ⟨ys, r, q⟩ := h
  exact ⟨ys, r, SqL.of q⟩
theorem rol_sq {a : Addr} {xs : List Vl} (h : ObR K A φ H a (.rol xs)) : ∃ ys, VRs A φ xs ys ∧ SqL K H a ys := by
  obtain ⟨ys, r, o, q⟩ := h
  exact ⟨ys, r, .inl (.inr ⟨o, q⟩)⟩
theorem tup_sq {a : Addr} {xs : List Vl} (h : ObR K A φ H a (.tup xs)) : ∃ ys, VRs A φ xs ys ∧ SqT K H a ys := by
  obtain ⟨ys, r, q⟩ := h
  exact ⟨ys, r, SqT.of q⟩
theorem lstAt_sq {n : Nat} {x : V} {xs : List Vl} (r : Rep K A φ S H) (v : VR A φ (.ref n) x) (g : lstAt S n = some xs) : ∃ a ys, x = .ref a ∧ VRs A φ xs ys ∧ SqL K H a ys := by
  unfold lstAt at g
  split at g
  · rename_i q
    cases g
    obtain ⟨a, e, _, ob⟩ := VR.ref_of r v q
    obtain ⟨ys, h1, h2⟩ := seq_sq ob
    exact ⟨a, ys, e, h1, h2⟩
  · rename_i q
    cases g
    obtain ⟨a, e, _, ob⟩ := VR.ref_of r v q
    obtain ⟨ys, h1, h2⟩ := rol_sq ob
    exact ⟨a, ys, e, h1, h2⟩
  · cases g
theorem tupAt_sq {n : Nat} {x : V} {xs : List Vl} (r : Rep K A φ S H) (v : VR A φ (.ref n) x) (g : tupAt S n = some xs) : ∃ a ys, x = .ref a ∧ VRs A φ xs ys ∧ SqT K H a ys := by
  unfold tupAt at g
  split at g
  · rename_i q
    cases g
    obtain ⟨a, e, _, ob⟩ := VR.ref_of r v q
    obtain ⟨ys, h1, h2⟩ := tup_sq ob
    exact ⟨a, ys, e, h1, h2⟩
  · cases g
theorem lstOf_sq {v : Vl} {x : V} {xs : List Vl} (r : Rep K A φ S H) (l : VR A φ v x) (g : lstOf S v = some xs) : ∃ a ys, x = .ref a ∧ VRs A φ xs ys ∧ SqL K H a ys := by
  cases v with
  | ref n =>
    refine lstAt_sq r l ?_
    unfold lstOf at g
    unfold lstAt
    cases q : S.get n with
    | none => simp only [q] at g; cases g
    | some o => cases o <;> simp only [q] at g ⊢ <;> first | exact g | cases g
  | _ => cases g
theorem seqOf_sq {v : Vl} {x : V} {xs : List Vl} (r : Rep K A φ S H) (l : VR A φ v x) (g : seqOf S v = some xs) : ∃ a ys, x = .ref a ∧ VRs A φ xs ys ∧ (SqL K H a ys ∨ SqT K H a ys) := by
  cases v with
  | ref n =>
    unfold seqOf at g
    cases q : S.get n with
    | none => simp only [q] at g; cases g
    | some o => cases o with
      | lst zs =>
        simp only [q] at g; cases g
        obtain ⟨a, ys, h1, h2, h3⟩ := lstAt_sq (xs := xs) r l (by unfold lstAt; rw [q])
        exact ⟨a, ys, h1, h2, .inl h3⟩
      | rol zs =>
        simp only [q] at g; cases g
        obtain ⟨a, ys, h1, h2, h3⟩ := lstAt_sq (xs := xs) r l (by unfold lstAt; rw [q])
        exact ⟨a, ys, h1, h2, .inl h3⟩
      | tup zs =>
        simp only [q] at g; cases g
        obtain ⟨a, ys, h1, h2, h3⟩ := tupAt_sq (xs := xs) r l (by unfold tupAt; rw [q])
        exact ⟨a, ys, h1, h2, .inr h3⟩
      | dK zs => simp only [q] at g; cases g
  | _ => cases g
theorem intsOf_V : ∀ {xs : List Vl} {ns : List Int} {ys : List V}, intsOf xs = some ns → VRs A φ xs ys → ys = ns.map V.int ∧ xs = ns.map Vl.int
  | [], ns, _, h, .nil => by
    cases h
    exact ⟨rfl, rfl⟩
  | .int i :: r, ns, _, h, .cons q t => by
    unfold intsOf at h
    cases e : intsOf r with
    | none => rw [e] at h; cases h
    | some ms =>
      rw [e] at h; cases h
      obtain ⟨h1, h2⟩ := intsOf_V e t
      have q : _ = V.int i := q
      rw [q, h1, h2]
      exact ⟨rfl, rfl⟩
  | .non :: _, _, _, h, _ => by cases h
  | .bl _ :: _, _, _, h, _ => by cases h
  | .str _ :: _, _, _, h, _ => by cases h
  | .ref _ :: _, _, _, h, _ => by cases h
  | .glo _ :: _, _, _, h, _ => by cases h
theorem blsOf_V : ∀ {xs : List Vl} {ns : List Bool} {ys : List V}, blsOf xs = some ns → VRs A φ xs ys → ys = ns.map V.bl ∧ xs = ns.map Vl.bl
  | [], ns, _, h, .nil => by
    cases h
    exact ⟨rfl, rfl⟩
  | .bl i :: r, ns, _, h, .cons q t => by
    unfold blsOf at h
    cases e : blsOf r with
    | none => rw [e] at h; cases h
    | some ms =>
      rw [e] at h; cases h
      obtain ⟨h1, h2⟩ := blsOf_V e t
      have q : _ = V.bl i := q
      rw [q, h1, h2]
      exact ⟨rfl, rfl⟩
  | .non :: _, _, _, h, _ => by cases h
  | .int _ :: _, _, _, h, _ => by cases h
  | .str _ :: _, _, _, h, _ => by cases h
  | .ref _ :: _, _, _, h, _ => by cases h
  | .glo _ :: _, _, _, h, _ => by cases h
theorem VRs.ints (ns : List Int) : VRs A φ (ns.map Vl.int) (ns.map V.int) := by
  induction ns with
  | nil => exact .nil
  | cons n r ih => exact .cons rfl ih
/-- a new list, a new tuple -/
theorem newL_ok {xs : List Vl} {ys : List V} {Q : VK} (r : Rep K A φ S H) (l : VRs A φ xs ys) (h : Post K A (VR A) φ H (newL xs S) Q W) :
    ys.length ≤ sizeLine ∧ ∀ p, H p = none → Q (.ref p) (upd H p (.lst ys)) := by
  unfold newL at h
  by_cases c : Nat.ble xs.length lineN = true
  · rw [if_pos c] at h
    refine ⟨by rw [← Paired.len l]; exact Nat.le_of_ble_eq_true c, fun p hp => ?_⟩
    exact Post.push h r hp fun φ' le => ⟨ys, VRs.ext le l, upd_same⟩
  · rw [if_neg c] at h
    exact h.elim
theorem newT_ok {xs : List Vl} {ys : List V} {Q : VK} (r : Rep K A φ S H) (l : VRs A φ xs ys) (h : Post K A (VR A) φ H (newT xs S) Q W) :
    ys.length ≤ sizeLine ∧ ∀ p, H p = none → Q (.ref p) (upd H p (.tup ys)) := by
  unfold newT at h
  by_cases c : Nat.ble xs.length lineN = true
  · rw [if_pos c] at h
    refine ⟨by rw [← Paired.len l]; exact Nat.le_of_ble_eq_true c, fun p hp => ?_⟩
    exact Post.push h r hp fun φ' le => ⟨ys, VRs.ext le l, upd_same⟩
  · rw [if_neg c] at h
    exact h.elim
end
end MP
namespace MP
open PySem PySem.Spec PyProof.Rows L2
def opOf : Op2 → Operator
  | .add => .Add | .sub => .Sub | .mul => .Mult | .fdiv => .FloorDiv | .mod => .Mod | .pow => .Pow
def cmOf : Cm → CmpOp
  | .eq => .Eq | .ne => .NotEq | .lt => .Lt | .le => .LtE | .gt => .Gt | .ge => .GtE | .is_ => .Is | .isn => .IsNot | .in_ => .In | .nin => .NotIn
/-- a two-place operation f of the small language, as a reading -/
def dOp (K : PySem.W.Frag) (A : Nat → Addr) (W : XK) (f : Vl → Vl → Sto → R Vl) : R2 := fun x y H Q => ∃ φ S u v, Rep K A φ S H ∧ VR A φ u x ∧ VR A φ v y ∧ Post K A (VR A) φ H (f u v S) Q W
def dUn (K : PySem.W.Frag) (A : Nat → Addr) (W : XK) (f : Vl → Sto → R Vl) : V → Hp → VK → Prop := fun x H Q => ∃ φ S u, Rep K A φ S H ∧ VR A φ u x ∧ Post K A (VR A) φ H (f u S) Q W
def dCl (K : PySem.W.Frag) (A : Nat → Addr) (W : XK) (f : List Vl → Sto → R Vl) : List V → Hp → VK → Prop := fun xs H Q => ∃ φ S us, Rep K A φ S H ∧ VRs A φ us xs ∧ Post K A (VR A) φ H (f us S) Q W
def dMt (K : PySem.W.Frag) (A : Nat → Addr) (W : XK) (f : Vl → List Vl → Sto → R Vl) : V → List V → Hp → VK → Prop := fun x xs H Q => ∃ φ S u us, Rep K A φ S H ∧ VR A φ u x ∧ VRs A φ us xs ∧ Post K A (VR A) φ H (f u us S) Q W
section
variable {X : Cx} {A : Nat → Addr} {W : XK}
/-- a value's answer that leaves the store as it is -/
theorem Post.val {K : PySem.W.Frag} {φ : Loc} {H : Hp} {S : Sto} {v : Vl} {x : V} {Q : VK} (h : Post K A (VR A) φ H (.ok v S) Q W) (r : Rep K A φ S H) (l : VR A φ v x) : Q x H := h.now r l
theorem op_bin_add : OpR X (binaryOp .Add) (dOp X.K A W (binS .add)) := by
  intro pins s σ H x y v u Q I rx ry ⟨φ, S, a, b, r, ra, rb, h⟩
  cases a with
  | int i => cases b with
    | int j => exact op_add pins s σ H x y v u Q I rx ry ⟨i, j, ra, rb, h.val r rfl⟩
    | _ => exact False.elim h
  | str i => cases b with
    | str j =>
      simp only [binS] at h
      by_cases c : Nat.ble (i.length + j.length) lineN = true
      · rw [if_pos c] at h
        exact op_add_str pins s σ H x y v u Q I rx ry ⟨i, j, ra, rb, Nat.le_of_ble_eq_true c, h.val r rfl⟩
      · rw [if_neg c] at h; exact False.elim h
    | _ => exact False.elim h
  | ref n => cases b with
    | ref m =>
      simp only [binS] at h
      cases q1 : S.get n with
      | none => rw [q1] at h; exact False.elim h
      | some o1 =>
        cases q2 : S.get m with
        | none => rw [q1, q2] at h; cases o1 with
          | tup xs => cases xs <;> exact False.elim h
          | _ => exact False.elim h
        | some o2 =>
          rw [q1, q2] at h
          obtain ⟨p1, e1, f1, ob1⟩ := VR.ref_of r ra q1
          obtain ⟨p2, e2, f2, ob2⟩ := VR.ref_of r rb q2
          cases o1 with
          | lst xs => cases o2 with
            | lst ys =>
              obtain ⟨ws, h1, h2⟩ := ob1
              obtain ⟨zs, h3, h4⟩ := ob2
              obtain ⟨h5, h6⟩ := newL_ok r (Paired.app h1 h3) h
              exact op_cat pins s σ H x y v u Q I rx ry ⟨p1, p2, ws, zs, e1, e2, h2, h4, by rw [← List.length_append]; exact h5, h6⟩
            | _ => exact False.elim h
          | tup xs => cases o2 with
            | tup ys =>
              cases xs with
              | nil => exact False.elim h
              | cons x0 xs => cases ys with
                | nil => exact False.elim h
                | cons y0 ys =>
                  obtain ⟨ws, h1, h2⟩ := ob1
                  obtain ⟨zs, h3, h4⟩ := ob2
                  obtain ⟨h5, h6⟩ := newT_ok r (Paired.app h1 h3) h
                  cases h1 with
                  | cons h1a h1b => cases h3 with
                    | cons h3a h3b =>
                      exact op_catT pins s σ H x y v u Q I rx ry ⟨p1, p2, _, _, e1, e2, SqT.of h2, SqT.of h4, by simp, by rw [← List.length_append]; exact h5, fun z => by simp at z, fun _ => h6⟩
            | _ => cases xs <;> exact False.elim h
          | _ => exact False.elim h
    | _ => exact False.elim h
  | _ => cases b <;> exact False.elim h
theorem op_bin_sub : OpR X (binaryOp .Sub) (dOp X.K A W (binS .sub)) := by
  intro pins s σ H x y v u Q I rx ry ⟨φ, S, a, b, r, ra, rb, h⟩
  cases a with
  | int i => cases b with
    | int j => exact op_sub pins s σ H x y v u Q I rx ry ⟨i, j, ra, rb, h.val r rfl⟩
    | _ => exact False.elim h
  | _ => cases b <;> exact False.elim h
theorem op_bin_mul : OpR X (binaryOp .Mult) (dOp X.K A W (binS .mul)) := by
  intro pins s σ H x y v u Q I rx ry ⟨φ, S, a, b, r, ra, rb, h⟩
  cases a with
  | int i => cases b with
    | int j =>
      simp only [binS] at h
      by_cases c : mulOk i j = true
      · rw [if_pos c] at h
        refine op_mulX pins s σ H x y v u Q I rx ry ⟨i, j, ra, rb, ?_, h.val r rfl⟩
        have := Nat.le_of_ble_eq_true c
        unfold CMulX
        omega
      · rw [if_neg c] at h; exact False.elim h
    | _ => exact False.elim h
  | ref n => cases b with
    | int k =>
      simp only [binS] at h
      cases q1 : S.get n with
      | none => rw [q1] at h; exact False.elim h
      | some o1 =>
        rw [q1] at h
        cases o1 with
        | lst xs =>
          obtain ⟨p1, e1, f1, ob1⟩ := VR.ref_of r ra q1
          obtain ⟨ws, h1, h2⟩ := ob1
          simp only at h
          by_cases c : (decide (-(2 ^ 62) ≤ k) && (decide (k < 2 ^ 62) && Nat.ble (xs.length * k.toNat) lineN)) = true
          · rw [if_pos c] at h
            simp only [Bool.and_eq_true, decide_eq_true_eq] at c
            have hz := Nat.le_of_ble_eq_true c.2.2
            refine op_rep pins s σ H x y v u Q I rx ry ⟨p1, k, ws, e1, rb, h2, by omega, by omega, by rw [← Paired.len h1]; exact hz, fun p hp => ?_⟩
            exact Post.push h r hp fun φ' le => ⟨_, VRs.ext le (repL_rep (α := V) h1 k.toNat), upd_same⟩
          · rw [if_neg c] at h; exact False.elim h
        | _ => exact False.elim h
    | _ => exact False.elim h
  | _ => cases b <;> exact False.elim h
theorem op_bin_fdiv : OpR X (binaryOp .FloorDiv) (dOp X.K A W (binS .fdiv)) := by
  intro pins s σ H x y v u Q I rx ry ⟨φ, S, a, b, r, ra, rb, h⟩
  cases a with
  | int i => cases b with
    | int j =>
      simp only [binS] at h
      by_cases c : (decide (j ≠ 0) && !Builtin.divisionGoesByPylong i j) = true
      · rw [if_pos c] at h
        simp only [Bool.and_eq_true, decide_eq_true_eq, Bool.not_eq_true'] at c
        exact opI (C := fun i j => j ≠ 0 ∧ Builtin.divisionGoesByPylong i j = false) (g := fun i j => i.fdiv j) (fun i j _ _ _ _ _ hc q => floordiv_int hc.1 q (.inl hc.2)) pins s σ H x y v u Q I rx ry ⟨i, j, ra, rb, c, h.val r rfl⟩
      · rw [if_neg c] at h; exact False.elim h
    | _ => exact False.elim h
  | _ => cases b <;> exact False.elim h
theorem op_bin_mod : OpR X (binaryOp .Mod) (dOp X.K A W (binS .mod)) := by
  intro pins s σ H x y v u Q I rx ry ⟨φ, S, a, b, r, ra, rb, h⟩
  cases a with
  | int i => cases b with
    | int j =>
      simp only [binS] at h
      by_cases c : decide (j ≠ 0) = true
      · rw [if_pos c] at h
        exact op_modN pins s σ H x y v u Q I rx ry ⟨i, j, ra, rb, of_decide_eq_true c, h.val r rfl⟩
      · rw [if_neg c] at h; exact False.elim h
    | _ => exact False.elim h
  | _ => cases b <;> exact False.elim h
theorem op_bin_pow : OpR X (binaryOp .Pow) (dOp X.K A W (binS .pow)) := by
  intro pins s σ H x y v u Q I rx ry ⟨φ, S, a, b, r, ra, rb, h⟩
  cases a with
  | int i => cases b with
    | int j =>
      simp only [binS] at h
      by_cases c : (decide (0 ≤ j) && decide ((Builtin.Int.intBits i : Int) * j ≤ 134217728)) = true
      · rw [if_pos c] at h
        simp only [Bool.and_eq_true, decide_eq_true_eq] at c
        exact opI (C := fun i j => 0 ≤ j ∧ (Builtin.Int.intBits i : Int) * j ≤ 2 ^ 27) (g := fun i j => i ^ j.toNat) (fun i j _ _ _ _ _ hc q => pow_int hc.1 hc.2 q) pins s σ H x y v u Q I rx ry ⟨i, j, ra, rb, c, h.val r rfl⟩
      · rw [if_neg c] at h; exact False.elim h
    | _ => exact False.elim h
  | _ => cases b <;> exact False.elim h
theorem op_bin (o : Op2) : OpR X (binaryOp (opOf o)) (dOp X.K A W (binS o)) := by
  cases o
  · exact op_bin_add
  · exact op_bin_sub
  · exact op_bin_mul
  · exact op_bin_fdiv
  · exact op_bin_mod
  · exact op_bin_pow
theorem dat_Dp {K : PySem.W.Frag} {φ : Loc} {S : Sto} {H : Hp} (r : Rep K A φ S H) : ∀ (k : Nat) (v : Vl) (x : V) (d : PyData), dat k S v = some d → VR A φ v x → Dp K H x d
  | k, .non, x, d, h, l => by cases k <;> (cases h; cases (show x = .non from l); exact .non)
  | k, .bl b, x, d, h, l => by cases k <;> (cases h; cases (show x = .bl b from l); exact .bl b)
  | k, .int b, x, d, h, l => by cases k <;> (cases h; cases (show x = .int b from l); exact .int b)
  | k, .str b, x, d, h, l => by cases k <;> (cases h; cases (show x = .str b from l); exact .str b)
  | k, .glo b, x, d, h, l => by cases k <;> cases h
  | 0, .ref n, x, d, h, l => by cases h
  | k + 1, .ref n, x, d, h, l => by
    have all : ∀ (xs : List Vl) (ys : List V) (ds : List PyData), datL (dat k S) xs = some ds → VRs A φ xs ys → DpAll K H ys ds := by
      intro xs
      induction xs with
      | nil => intro ys ds e p; cases p; cases e; exact .nil
      | cons a t ih =>
        intro ys ds e p
        cases p with
        | cons p1 p2 =>
          unfold datL at e
          cases q1 : dat k S a with
          | none => rw [q1] at e; cases e
          | some d1 =>
            cases q2 : datL (dat k S) t with
            | none => rw [q1, q2] at e; cases e
            | some ds2 =>
              rw [q1, q2] at e
              cases e
              exact .cons (dat_Dp r k a _ d1 q1 p1) (ih _ _ q2 p2)
    unfold dat at h
    cases q : S.get n with
    | none => rw [q] at h; cases h
    | some o =>
      rw [q] at h
      obtain ⟨p, e, f, ob⟩ := VR.ref_of r l q
      subst e
      cases o with
      | lst xs =>
        obtain ⟨ys, h1, h2⟩ := seq_sq ob
        cases q2 : datL (dat k S) xs with
        | none => simp only [q2] at h; cases h
        | some ds => simp only [q2] at h; cases h; exact .lst h2 (all _ _ _ q2 h1)
      | rol xs =>
        obtain ⟨ys, h1, h2⟩ := rol_sq ob
        cases q2 : datL (dat k S) xs with
        | none => simp only [q2] at h; cases h
        | some ds => simp only [q2] at h; cases h; exact .lst h2 (all _ _ _ q2 h1)
      | tup xs =>
        obtain ⟨ys, h1, h2⟩ := tup_sq ob
        cases q2 : datL (dat k S) xs with
        | none => simp only [q2] at h; cases h
        | some ds => simp only [q2] at h; cases h; exact .tup h2 (all _ _ _ q2 h1)
      | dK xs => cases h
theorem eqS_Dp {K : PySem.W.Frag} {φ : Loc} {S : Sto} {H : Hp} {u v : Vl} {x y : V} {b : Bool} (r : Rep K A φ S H) (ru : VR A φ u x) (rv : VR A φ v y) (h : eqS S u v = some b) :
    ∃ d e, Dp K H x d ∧ Dp K H y e ∧ SeqAt.shaped d = true ∧ SeqAt.shaped e = true ∧ b = PyData.eqv d e := by
  unfold eqS at h
  cases q1 : dat 60 S u with
  | none => rw [q1] at h; cases h
  | some d =>
    cases q2 : dat 60 S v with
    | none => rw [q1, q2] at h; cases h
    | some e =>
      rw [q1, q2] at h
      simp only at h
      by_cases c : (canon d && canon e) = true
      · rw [if_pos c] at h
        cases h
        rw [Bool.and_eq_true] at c
        exact ⟨d, e, dat_Dp r 60 u x d q1 ru, dat_Dp r 60 v y e q2 rv, c.1, c.2, rfl⟩
      · rw [if_neg c] at h; cases h
theorem flat_V {φ : Loc} {u : Vl} {x : V} (f : flat u = true) (l : VR A φ u x) : flatV x = true := by
  cases u with
  | ref n => cases f
  | glo n => cases f
  | _ => cases l; rfl
theorem allFlat_V {φ : Loc} : ∀ {us : List Vl} {xs : List V}, allFlat us = true → VRs A φ us xs → xs.all flatV = true
  | [], _, _, .nil => rfl
  | u :: us, _, f, .cons q t => by
    unfold allFlat at f
    rw [Bool.and_eq_true] at f
    rw [List.all_cons, flat_V f.1 q, allFlat_V f.2 t]
    rfl
theorem eqF_V {φ : Loc} {u v : Vl} {x y : V} (l : VR A φ u x) (m : VR A φ v y) (f : flat u = true) (g : flat v = true) : eqF u v = eqV x y := by
  cases u with
  | ref n => cases f
  | glo n => cases f
  | str a => cases v with
    | ref n => cases g
    | glo n => cases g
    | str b =>
      cases l; cases m
      show strEq a b = (a == b)
      by_cases e : a = b
      · subst e
        rw [strEq_iff.mpr rfl]; simp
      · have e1 : strEq a b = false := by
          cases q : strEq a b with
          | false => rfl
          | true => exact absurd (strEq_iff.mp q) e
        rw [e1]
        simpa using e
    | _ => cases l; cases m; rfl
  | _ => cases v with
    | ref n => cases g
    | glo n => cases g
    | _ => cases l; cases m; rfl
theorem inF_V {φ : Loc} {u : Vl} {x : V} (l : VR A φ u x) (f : flat u = true) : ∀ {us : List Vl} {xs : List V}, allFlat us = true → VRs A φ us xs → inF u us = inV x xs
  | [], _, _, .nil => rfl
  | v :: us, _, g, .cons q t => by
    unfold allFlat at g
    rw [Bool.and_eq_true] at g
    unfold inF inV
    rw [List.any_cons, eqF_V q l g.1 f, inF_V l f g.2 t]
    rfl
theorem op_cmp (hu : X.A.units + 64 < cLine) (o : Cm) : OpR X (compareOp (cmOf o)) (dOp X.K A W (cmpS o)) := by
  intro pins s σ H x y v u Q I rx ry ⟨φ, S, a, b, r, ra, rb, h⟩
  cases o with
  | eq =>
    simp only [cmpS] at h
    cases q : eqS S a b with
    | none => rw [q] at h; exact False.elim h
    | some c =>
      rw [q] at h
      obtain ⟨d, e, h1, h2, h3, h4, h5⟩ := eqS_Dp r ra rb q
      subst h5
      exact op_eqD hu pins s σ H x y v u Q I rx ry ⟨d, e, h1, h2, h3, h4, h.val r rfl⟩
  | ne =>
    simp only [cmpS] at h
    cases q : eqS S a b with
    | none => rw [q] at h; exact False.elim h
    | some c =>
      rw [q] at h
      obtain ⟨d, e, h1, h2, h3, h4, h5⟩ := eqS_Dp r ra rb q
      subst h5
      exact op_neD hu pins s σ H x y v u Q I rx ry ⟨d, e, h1, h2, h3, h4, h.val r rfl⟩
  | lt => cases a with
    | int i => cases b with
      | int j => exact op_lt pins s σ H x y v u Q I rx ry ⟨i, j, ra, rb, h.val r rfl⟩
      | _ => exact False.elim h
    | _ => cases b <;> exact False.elim h
  | le => cases a with
    | int i => cases b with
      | int j => exact op_le pins s σ H x y v u Q I rx ry ⟨i, j, ra, rb, h.val r rfl⟩
      | _ => exact False.elim h
    | _ => cases b <;> exact False.elim h
  | gt => cases a with
    | int i => cases b with
      | int j => exact op_gt pins s σ H x y v u Q I rx ry ⟨i, j, ra, rb, h.val r rfl⟩
      | _ => exact False.elim h
    | _ => cases b <;> exact False.elim h
  | ge => cases a with
    | int i => cases b with
      | int j => exact op_ge pins s σ H x y v u Q I rx ry ⟨i, j, ra, rb, h.val r rfl⟩
      | _ => exact False.elim h
    | _ => cases b <;> exact False.elim h
  | is_ => cases b with
    | non =>
      have e : Q (.bl (decide (x = .non))) H := by
        cases a with
        | non => cases ra; exact h.val r rfl
        | ref n => obtain ⟨p, _, e⟩ := ra; subst e; exact h.val r rfl
        | _ => cases ra; exact h.val r rfl
      exact op_isN pins s σ H x y v u Q I rx ry ⟨rb, e⟩
    | bl j => cases a with
      | bl i => exact op_isBl pins s σ H x y v u Q I rx ry ⟨i, j, ra, rb, by
          have := h.val (x := .bl (i == j)) r rfl
          cases i <;> cases j <;> exact this⟩
      | _ => exact False.elim h
    | _ => cases a <;> exact False.elim h
  | isn => cases b with
    | non =>
      have e : Q (.bl (!decide (x = .non))) H := by
        cases a with
        | non => cases ra; exact h.val r rfl
        | ref n => obtain ⟨p, _, e⟩ := ra; subst e; exact h.val r rfl
        | _ => cases ra; exact h.val r rfl
      exact op_notN pins s σ H x y v u Q I rx ry ⟨rb, e⟩
    | bl j => cases a with
      | bl i => exact op_notBl pins s σ H x y v u Q I rx ry ⟨i, j, ra, rb, by
          have := h.val (x := .bl (!(i == j))) r rfl
          cases i <;> cases j <;> exact this⟩
      | _ => exact False.elim h
    | _ => cases a <;> exact False.elim h
  | in_ =>
    simp only [cmpS] at h
    cases q : seqOf S b with
    | none => rw [q] at h; exact False.elim h
    | some xs =>
      rw [q] at h
      simp only at h
      by_cases c : (flat a && allFlat xs) = true
      · rw [if_pos c] at h
        rw [Bool.and_eq_true] at c
        obtain ⟨p, ys, e, h1, h2⟩ := seqOf_sq r rb q
        refine op_in_seq pins s σ H x y v u Q I rx ry ⟨p, ys, e, h2, flat_V c.1 ra, allFlat_V c.2 h1, ?_⟩
        rw [← inF_V ra c.1 c.2 h1]
        exact h.val r rfl
      · rw [if_neg c] at h; exact False.elim h
  | nin =>
    simp only [cmpS] at h
    cases q : seqOf S b with
    | none => rw [q] at h; exact False.elim h
    | some xs =>
      rw [q] at h
      simp only at h
      by_cases c : (flat a && allFlat xs) = true
      · rw [if_pos c] at h
        rw [Bool.and_eq_true] at c
        obtain ⟨p, ys, e, h1, h2⟩ := seqOf_sq r rb q
        refine op_notIn_seq pins s σ H x y v u Q I rx ry ⟨p, ys, e, h2, flat_V c.1 ra, allFlat_V c.2 h1, ?_⟩
        rw [← inF_V ra c.1 c.2 h1]
        exact h.val r rfl
      · rw [if_neg c] at h; exact False.elim h
end
end MP
namespace MP
open PySem PySem.Spec PyProof.Rows L2
mutual
theorem reprD_shown : ∀ d : PyData, smallD d = true → reprD d = d.shown ∧ d.showable = true ∧ d.hasDict = false
  | .none, _ => ⟨by simp only [reprD, PyData.shown], by simp only [PyData.showable], by simp only [PyData.hasDict]⟩
  | .bool b, _ => ⟨by simp only [reprD, PyData.shown], by simp only [PyData.showable], by simp only [PyData.hasDict]⟩
  | .int i, h => ⟨by simp only [reprD, PyData.shown], by
      simp only [smallD] at h
      have := Nat.le_of_ble_eq_true h
      simp only [PyData.showable, decide_eq_true_eq]
      exact this, by simp only [PyData.hasDict]⟩
  | .str s, _ => ⟨by simp only [reprD, PyData.shown], by simp only [PyData.showable], by simp only [PyData.hasDict]⟩
  | .list ds, h => by
    simp only [smallD] at h
    obtain ⟨h1, h2, h3⟩ := reprs_shown ds h
    refine ⟨?_, by simp only [PyData.showable]; exact h2, by simp only [PyData.hasDict]; exact h3⟩
    simp only [PyData.shown]
    rw [← h1]
    cases ds with
    | nil => simp only [reprD, reprs]; exact (show listText [] = ("[]" : Str) by decide +kernel).symm
    | cons d t => simp only [reprD]
  | .tuple ds, h => by
    simp only [smallD] at h
    obtain ⟨h1, h2, h3⟩ := reprs_shown ds h
    refine ⟨?_, by simp only [PyData.showable]; exact h2, by simp only [PyData.hasDict]; exact h3⟩
    simp only [PyData.shown, reprD]
    rw [← h1]
  | .dict kvs, h => by simp only [smallD] at h; cases h
theorem reprs_shown : ∀ ds : List PyData, smallDs ds = true → reprs ds = PyData.shownAll ds ∧ PyData.showableAll ds = true ∧ PyData.hasDictAll ds = false
  | [], _ => ⟨by simp only [reprs, PyData.shownAll], by simp only [PyData.showableAll], by simp only [PyData.hasDictAll]⟩
  | d :: ds, h => by
    simp only [smallDs, Bool.and_eq_true] at h
    obtain ⟨h1, h2, h3⟩ := reprD_shown d h.1
    obtain ⟨h4, h5, h6⟩ := reprs_shown ds h.2
    refine ⟨by simp only [reprs, PyData.shownAll, h1, h4], by simp only [PyData.showableAll, h2, h5, Bool.and_self], by simp only [PyData.hasDictAll, h3, h6, Bool.or_self]⟩
end
theorem dat_depth {S : Sto} : ∀ (k : Nat) (v : Vl) (d : PyData), dat k S v = some d → d.depth ≤ k
  | k, .non, d, h => by cases k <;> (cases h; simp only [PyData.depth]; exact Nat.zero_le _)
  | k, .bl b, d, h => by cases k <;> (cases h; simp only [PyData.depth]; exact Nat.zero_le _)
  | k, .int b, d, h => by cases k <;> (cases h; simp only [PyData.depth]; exact Nat.zero_le _)
  | k, .str b, d, h => by cases k <;> (cases h; simp only [PyData.depth]; exact Nat.zero_le _)
  | k, .glo b, d, h => by cases k <;> cases h
  | 0, .ref n, d, h => by cases h
  | k + 1, .ref n, d, h => by
    have all : ∀ (xs : List Vl) (ds : List PyData), datL (dat k S) xs = some ds → PyData.depthAll ds ≤ k := by
      intro xs
      induction xs with
      | nil => intro ds e; cases e; simp only [PyData.depthAll]; exact Nat.zero_le _
      | cons a t ih =>
        intro ds e
        unfold datL at e
        cases q1 : dat k S a with
        | none => rw [q1] at e; cases e
        | some d1 =>
          cases q2 : datL (dat k S) t with
          | none => rw [q1, q2] at e; cases e
          | some ds2 =>
            rw [q1, q2] at e
            cases e
            simp only [PyData.depthAll]
            exact Nat.max_le.mpr ⟨dat_depth k a d1 q1, ih _ q2⟩
    unfold dat at h
    cases q : S.get n with
    | none => rw [q] at h; cases h
    | some o =>
      rw [q] at h
      cases o with
      | lst xs =>
        cases q2 : datL (dat k S) xs with
        | none => simp only [q2] at h; cases h
        | some ds => simp only [q2] at h; cases h; simp only [PyData.depth]; exact Nat.succ_le_succ (all _ _ q2)
      | rol xs =>
        cases q2 : datL (dat k S) xs with
        | none => simp only [q2] at h; cases h
        | some ds => simp only [q2] at h; cases h; simp only [PyData.depth]; exact Nat.succ_le_succ (all _ _ q2)
      | tup xs =>
        cases q2 : datL (dat k S) xs with
        | none => simp only [q2] at h; cases h
        | some ds => simp only [q2] at h; cases h; simp only [PyData.depth]; exact Nat.succ_le_succ (all _ _ q2)
      | dK xs => cases h
section
variable {X : Cx} {A : Nat → Addr} {W : XK}
theorem VRs.one {φ : Loc} {u : Vl} {xs : List V} (h : VRs A φ [u] xs) : ∃ x, xs = [x] ∧ VR A φ u x := by
  cases h with
  | cons h1 h2 => cases h2; exact ⟨_, rfl, h1⟩
theorem VRs.two {φ : Loc} {u v : Vl} {xs : List V} (h : VRs A φ [u, v] xs) : ∃ x y, xs = [x, y] ∧ VR A φ u x ∧ VR A φ v y := by
  cases h with
  | cons h1 h2 => cases h2 with
    | cons h2 h3 => cases h3; exact ⟨_, _, rfl, h1, h2⟩
theorem VRs.zero {φ : Loc} {xs : List V} (h : VRs A φ [] xs) : xs = [] := by cases h; rfl
theorem truth_V {K : PySem.W.Frag} {φ : Loc} {S : Sto} {H : Hp} {u : Vl} {x : V} {b : Bool} (r : Rep K A φ S H) (l : VR A φ u x) (h : truth S u = some b) : TruV K x H b := by
  have ise : ∀ {xs : List Vl} {ys : List V}, VRs A φ xs ys → xs.isEmpty = ys.isEmpty := fun p => by cases p <;> rfl
  have isk : ∀ {xs : List (Key × Vl)} {ys : List (Key × V)}, KRs A φ xs ys → xs.isEmpty = ys.isEmpty := fun p => by cases p <;> rfl
  cases u with
  | non => cases l; cases h; rfl
  | bl c => cases l; cases h; rfl
  | int c => cases l; cases h; rfl
  | glo k => cases h
  | str s =>
    cases l
    simp only [truth] at h
    by_cases c : Nat.ble s.length lineN = true
    · rw [if_pos c] at h; cases h; exact ⟨Nat.le_of_ble_eq_true c, rfl⟩
    · rw [if_neg c] at h; cases h
  | ref n =>
    simp only [truth] at h
    cases q : S.get n with
    | none => rw [q] at h; cases h
    | some o =>
      rw [q] at h
      obtain ⟨p, e, f, ob⟩ := VR.ref_of r l q
      subst e
      cases o with
      | lst xs => obtain ⟨ys, h1, h2⟩ := seq_sq ob; cases h; exact .inl ⟨ys, h2, by rw [ise h1]⟩
      | rol xs => obtain ⟨ys, h1, h2⟩ := rol_sq ob; cases h; exact .inl ⟨ys, h2, by rw [ise h1]⟩
      | tup xs => obtain ⟨ys, h1, h2⟩ := tup_sq ob; cases h; exact .inr (.inl ⟨ys, h2, by rw [ise h1]⟩)
      | dK xs => obtain ⟨ys, h1, h2⟩ := ob; cases h; exact .inr (.inr ⟨ys, h2, by rw [isk h1]⟩)
theorem lenS_V {K : PySem.W.Frag} {φ : Loc} {S : Sto} {H : Hp} {u : Vl} {x : V} {b : Nat} (r : Rep K A φ S H) (l : VR A φ u x) (h : lenS S u = some b) : LenV K x H b := by
  cases u with
  | str s =>
    cases l
    simp only [lenS] at h
    by_cases c : Nat.ble s.length lineN = true
    · rw [if_pos c] at h; cases h; exact ⟨Nat.le_of_ble_eq_true c, rfl⟩
    · rw [if_neg c] at h; cases h
  | ref n =>
    simp only [lenS] at h
    cases q : S.get n with
    | none => rw [q] at h; cases h
    | some o =>
      rw [q] at h
      obtain ⟨p, e, f, ob⟩ := VR.ref_of r l q
      subst e
      cases o with
      | lst xs => obtain ⟨ys, h1, h2⟩ := seq_sq ob; cases h; exact .inl ⟨ys, h2, Paired.len h1⟩
      | rol xs => obtain ⟨ys, h1, h2⟩ := rol_sq ob; cases h; exact .inl ⟨ys, h2, Paired.len h1⟩
      | tup xs => obtain ⟨ys, h1, h2⟩ := tup_sq ob; cases h; exact .inr ⟨ys, h2, Paired.len h1⟩
      | dK xs => cases h
  | _ => cases h
theorem ixI_N (n : Nat) (i : Int) : ixI n i = ixN n i := by
  unfold ixI ixN
  cases i with
  | ofNat k =>
    simp only
    by_cases c : k < n
    · have c1 : Nat.blt k n = true := Nat.ble_eq_true_of_le c
      rw [if_pos c1, if_pos (show (0 : Int) ≤ Int.ofNat k from Int.natCast_nonneg k), if_pos (show Int.ofNat k < (n : Int) from Int.ofNat_lt.mpr c)]
      rfl
    · have c1 : ¬ Nat.blt k n = true := fun z => c (Nat.le_of_ble_eq_true z)
      rw [if_neg c1, if_pos (show (0 : Int) ≤ Int.ofNat k from Int.natCast_nonneg k), if_neg (show ¬ Int.ofNat k < (n : Int) from fun z => c (Int.ofNat_lt.mp z))]
  | negSucc k =>
    simp only
    have e : ¬ (0 ≤ Int.negSucc k) := by omega
    rw [if_neg e]
    by_cases c : k + 1 ≤ n
    · rw [if_pos (Nat.ble_eq_true_of_le c), if_pos (by omega)]
      congr 1
      omega
    · rw [if_neg (fun z => c (Nat.le_of_ble_eq_true z)), if_neg (by omega)]
theorem at_V {K : PySem.W.Frag} {φ : Loc} {xs : List Vl} {ys : List V} {i : Int} {v : Vl} (p : VRs A φ xs ys) (h : ((ixI xs.length i).bind fun j => xs[j]?) = some v) : ∃ y, atI ys i = some y ∧ VR A φ v y := by
  unfold atI
  rw [← Paired.len p, ← ixI_N]
  cases e : ixI xs.length i with
  | none => rw [e] at h; cases h
  | some j =>
    rw [e] at h
    obtain ⟨y, h1, h2⟩ := Paired.at1 p (show xs[j]? = some v from h)
    exact ⟨y, h1, h2⟩
theorem ix_sub : IxR X (dOp X.K A W subS) := by
  intro value slice pins s σ H x y v u Q I rx ry ⟨φ, S, a, b, r, ra, rb, h⟩ hs
  cases a with
  | ref n => cases b with
    | int i =>
      simp only [subS] at h
      cases q : S.get n with
      | none => rw [q] at h; exact False.elim h
      | some o =>
        rw [q] at h
        obtain ⟨p, e, f, ob⟩ := VR.ref_of r ra q
        cases o with
        | lst xs =>
          obtain ⟨ys, h1, h2⟩ := seq_sq ob
          cases q2 : ((ixI xs.length i).bind fun j => xs[j]?) with
          | none => simp only [q2] at h; exact False.elim h
          | some w =>
            simp only [q2] at h
            obtain ⟨z, h3, h4⟩ := at_V (K := X.K) h1 q2
            exact ix_list value slice pins s σ H x y v u Q I rx ry ⟨p, ys, i, z, e, rb, h2, h3, h.val r h4⟩ hs
        | rol xs =>
          obtain ⟨ys, h1, h2⟩ := rol_sq ob
          cases q2 : ((ixI xs.length i).bind fun j => xs[j]?) with
          | none => simp only [q2] at h; exact False.elim h
          | some w =>
            simp only [q2] at h
            obtain ⟨z, h3, h4⟩ := at_V (K := X.K) h1 q2
            exact ix_list value slice pins s σ H x y v u Q I rx ry ⟨p, ys, i, z, e, rb, h2, h3, h.val r h4⟩ hs
        | tup xs =>
          obtain ⟨ys, h1, h2⟩ := tup_sq ob
          cases q2 : ((ixI xs.length i).bind fun j => xs[j]?) with
          | none => simp only [q2] at h; exact False.elim h
          | some w =>
            simp only [q2] at h
            obtain ⟨z, h3, h4⟩ := at_V (K := X.K) h1 q2
            exact ix_tup value slice pins s σ H x y v u Q I rx ry ⟨p, ys, i, z, e, rb, h2, h3, h.val r h4⟩ hs
        | dK xs => exact False.elim h
    | _ => exact False.elim h
  | str w => cases b with
    | int i =>
      simp only [subS] at h
      cases q2 : ((ixI w.cps.toList.length i).bind fun j => w.cps.toList[j]?) with
      | none => simp only [q2] at h; exact False.elim h
      | some c =>
        simp only [q2] at h
        by_cases k : Nat.ble w.length lineN = true
        · rw [if_pos k] at h
          exact ix_str value slice pins s σ H x y v u Q I rx ry ⟨w, i, c, ra, rb, Nat.le_of_ble_eq_true k, by unfold atI; rw [← ixI_N]; exact q2, h.val r rfl⟩ hs
        · rw [if_neg k] at h; exact False.elim h
    | _ => exact False.elim h
  | _ => cases b <;> exact False.elim h
theorem sIx_eq (n d : Nat) (o : Option Int) : HT.sIx n d o = sIxS n d o := by
  cases o with
  | none => rfl
  | some v =>
    cases v with
    | ofNat k =>
      show (if Int.ofNat k < 0 then (Int.ofNat k + (n : Int)).toNat else min (Int.ofNat k).toNat n) = min k n
      rw [if_neg (show ¬ Int.ofNat k < 0 from fun z => absurd (Int.natCast_nonneg k) (Int.not_le.mpr z))]
      rfl
    | negSucc k =>
      show (if Int.negSucc k < 0 then (Int.negSucc k + (n : Int)).toNat else min (Int.negSucc k).toNat n) = n - (k + 1)
      rw [if_pos (by omega)]
      omega
def dSl (K : PySem.W.Frag) (A : Nat → Addr) (W : XK) : V → Option Int → Option Int → Hp → VK → Prop := fun x lo hi H Q => ∃ φ S u, Rep K A φ S H ∧ VR A φ u x ∧ Post K A (VR A) φ H (cutS u lo hi S) Q W
theorem cut_V {φ : Loc} {xs : List Vl} {ys : List V} (p : VRs A φ xs ys) (lo hi : Option Int) : VRs A φ (cutL xs lo hi) (cutV ys lo hi) := by
  unfold cutL cutV
  rw [sIx_eq, sIx_eq, ← Paired.len p]
  exact Paired.tk _ (Paired.dr _ p)
theorem sl_cut : SlR X (dSl X.K A W) := by
  intro pins s σ H x v vl vu lo hi sl Q I rx hs pl pu ⟨φ, S, a, r, ra, h⟩
  cases a with
  | ref n =>
    simp only [cutS] at h
    cases q : S.get n with
    | none => rw [q] at h; exact False.elim h
    | some o =>
      rw [q] at h
      obtain ⟨p, e, f, ob⟩ := VR.ref_of r ra q
      cases o with
      | lst xs =>
        obtain ⟨ys, h1, h2⟩ := seq_sq ob
        exact sl_list pins s σ H x v vl vu lo hi sl Q I rx hs pl pu ⟨p, ys, e, h2, fun t ht => Post.push h r ht fun φ' le => ⟨_, VRs.ext le (cut_V h1 lo hi), upd_same⟩⟩
      | rol xs =>
        obtain ⟨ys, h1, h2⟩ := rol_sq ob
        exact sl_list pins s σ H x v vl vu lo hi sl Q I rx hs pl pu ⟨p, ys, e, h2, fun t ht => Post.push h r ht fun φ' le => ⟨_, VRs.ext le (cut_V h1 lo hi), upd_same⟩⟩
      | _ => exact False.elim h
  | _ => exact False.elim h
theorem isum_eq : ∀ ns : List Int, ns.sum = isum ns
  | [] => rfl
  | n :: ns => by rw [List.sum_cons, isum_eq ns]; rfl
theorem imax_max : ∀ (ns : List Int) (a : Int), (imax a ns = a ∨ imax a ns ∈ ns) ∧ a ≤ imax a ns ∧ ∀ y ∈ ns, y ≤ imax a ns
  | [], a => ⟨.inl rfl, Int.le_refl _, fun _ h => by cases h⟩
  | n :: ns, a => by
    unfold imax
    obtain ⟨h1, h2, h3⟩ := imax_max ns (if a < n then n else a)
    refine ⟨?_, ?_, ?_⟩
    · rcases h1 with h1 | h1
      · rw [h1]
        by_cases c : a < n
        · rw [if_pos c]; exact .inr (List.mem_cons_self ..)
        · rw [if_neg c]; exact .inl rfl
      · exact .inr (List.mem_cons_of_mem _ h1)
    · refine Int.le_trans ?_ h2
      by_cases c : a < n
      · rw [if_pos c]; omega
      · rw [if_neg c]; omega
    · intro y hy
      rcases List.mem_cons.mp hy with e | e
      · subst e
        refine Int.le_trans ?_ h2
        by_cases c : a < y
        · rw [if_pos c]; omega
        · rw [if_neg c]; omega
      · exact h3 y e
theorem imin_min : ∀ (ns : List Int) (a : Int), (imin a ns = a ∨ imin a ns ∈ ns) ∧ imin a ns ≤ a ∧ ∀ y ∈ ns, imin a ns ≤ y
  | [], a => ⟨.inl rfl, Int.le_refl _, fun _ h => by cases h⟩
  | n :: ns, a => by
    unfold imin
    obtain ⟨h1, h2, h3⟩ := imin_min ns (if n < a then n else a)
    refine ⟨?_, ?_, ?_⟩
    · rcases h1 with h1 | h1
      · rw [h1]
        by_cases c : n < a
        · rw [if_pos c]; exact .inr (List.mem_cons_self ..)
        · rw [if_neg c]; exact .inl rfl
      · exact .inr (List.mem_cons_of_mem _ h1)
    · refine Int.le_trans h2 ?_
      by_cases c : n < a
      · rw [if_pos c]; omega
      · rw [if_neg c]; omega
    · intro y hy
      rcases List.mem_cons.mp hy with e | e
      · subst e
        refine Int.le_trans h2 ?_
        by_cases c : y < a
        · rw [if_pos c]; omega
        · rw [if_neg c]; omega
      · exact h3 y e
theorem ins_perm (a : Int) : ∀ l : List Int, (ins a l).Perm (a :: l)
  | [] => List.Perm.refl _
  | b :: r => by
    unfold ins
    by_cases c : a ≤ b
    · rw [if_pos c]
    · rw [if_neg c]
      exact ((ins_perm a r).cons b).trans (List.Perm.swap a b r)
theorem ins_mem {a x : Int} {l : List Int} (h : x ∈ ins a l) : x = a ∨ x ∈ l := by
  have := (ins_perm a l).mem_iff.mp h
  exact List.mem_cons.mp this
theorem ins_sorted (a : Int) : ∀ l : List Int, l.Pairwise (· ≤ ·) → (ins a l).Pairwise (· ≤ ·)
  | [], _ => by unfold ins; exact List.pairwise_singleton _ _
  | b :: r, h => by
    unfold ins
    by_cases c : a ≤ b
    · rw [if_pos c]
      refine List.pairwise_cons.mpr ⟨fun x hx => ?_, h⟩
      rcases List.mem_cons.mp hx with e | e
      · rw [e]; exact c
      · exact Int.le_trans c ((List.pairwise_cons.mp h).1 x e)
    · rw [if_neg c]
      refine List.pairwise_cons.mpr ⟨fun x hx => ?_, ins_sorted a r (List.pairwise_cons.mp h).2⟩
      rcases ins_mem hx with e | e
      · rw [e]; omega
      · exact (List.pairwise_cons.mp h).1 x e
theorem isort_perm : ∀ l : List Int, (isort l).Perm l
  | [] => List.Perm.refl _
  | a :: r => (ins_perm a (isort r)).trans ((isort_perm r).cons a)
theorem isort_sorted : ∀ l : List Int, (isort l).Pairwise (· ≤ ·)
  | [] => List.Pairwise.nil
  | a :: r => ins_sorted a _ (isort_sorted r)
theorem sorted_uniq : ∀ {l m : List Int}, l.Perm m → l.Pairwise (· ≤ ·) → m.Pairwise (· ≤ ·) → l = m
  | [], m, p, _, _ => (List.perm_nil.mp p.symm).symm
  | a :: l, [], p, _, _ => absurd (List.perm_nil.mp p) (by simp)
  | a :: l, b :: m, p, h1, h2 => by
    have e : a = b := by
      have ha : a ∈ b :: m := p.mem_iff.mp (List.mem_cons_self ..)
      have hb : b ∈ a :: l := p.mem_iff.mpr (List.mem_cons_self ..)
      have q1 : b ≤ a := by
        rcases List.mem_cons.mp ha with e | e
        · omega
        · exact (List.pairwise_cons.mp h2).1 a e
      have q2 : a ≤ b := by
        rcases List.mem_cons.mp hb with e | e
        · omega
        · exact (List.pairwise_cons.mp h1).1 b e
      omega
    subst e
    rw [sorted_uniq (List.Perm.cons_inv p) (List.pairwise_cons.mp h1).2 (List.pairwise_cons.mp h2).2]
theorem icount_eq (k : Int) : ∀ ns : List Int, ns.count k = icount k ns
  | [] => rfl
  | n :: ns => by
    unfold icount
    rw [List.count_cons, icount_eq k ns]
    by_cases c : (n == k) = true
    · rw [if_pos c, if_pos c]
    · rw [if_neg c, if_neg c]; rfl
theorem band_eq : ∀ bs : List Bool, bs.all id = band bs
  | [] => rfl
  | b :: bs => by rw [List.all_cons, band_eq bs]; rfl
theorem bor_eq : ∀ bs : List Bool, bs.any id = bor bs
  | [] => rfl
  | b :: bs => by rw [List.any_cons, bor_eq bs]; rfl
theorem nums_sq {K : PySem.W.Frag} {φ : Loc} {S : Sto} {H : Hp} {u : Vl} {x : V} {ns : List Int} (r : Rep K A φ S H) (l : VR A φ u x) (h : (lstOf S u).bind intsOf = some ns) : ∃ a, x = .ref a ∧ SqL K H a (ns.map V.int) := by
  cases e : lstOf S u with
  | none => rw [e] at h; cases h
  | some xs =>
    rw [e] at h
    obtain ⟨a, ys, h1, h2, h3⟩ := lstOf_sq r l e
    obtain ⟨h4, _⟩ := intsOf_V (show intsOf xs = some ns from h) h2
    subst h4
    exact ⟨a, h1, h3⟩
theorem bls_sq {K : PySem.W.Frag} {φ : Loc} {S : Sto} {H : Hp} {u : Vl} {x : V} {ns : List Bool} (r : Rep K A φ S H) (l : VR A φ u x) (h : (lstOf S u).bind blsOf = some ns) : ∃ a, x = .ref a ∧ SqL K H a (ns.map V.bl) := by
  cases e : lstOf S u with
  | none => rw [e] at h; cases h
  | some xs =>
    rw [e] at h
    obtain ⟨a, ys, h1, h2, h3⟩ := lstOf_sq r l e
    obtain ⟨h4, _⟩ := blsOf_V (show blsOf xs = some ns from h) h2
    subst h4
    exact ⟨a, h1, h3⟩
theorem Vals.one {x : V} {us : List Value} (r : Vals [x] us) : ∃ u, us = [u] ∧ RelV x u := by
  cases r with
  | cons h1 h2 => cases h2; exact ⟨_, rfl, h1⟩
theorem cl_repr (hg : X.A.guards = some []) (hu : X.A.units + 100 < cLine) : CallR X (.builtin "repr") (dCl X.K A W (biS .repr)) := by
  intro pins s σ H xs us Q I rs ⟨φ, S, vs, r, ra, h⟩
  match vs, h with
  | [], h => exact False.elim h
  | _ :: _ :: _, h => exact False.elim h
  | [v], h =>
    obtain ⟨x, e, l⟩ := VRs.one ra
    subst e
    obtain ⟨u, e, rx⟩ := Vals.one rs
    subst e
    simp only [biS] at h
    cases q : dat 60 S v with
    | none => rw [q] at h; exact False.elim h
    | some d =>
      rw [q] at h
      simp only at h
      by_cases c : (smallD d && Nat.ble (reprD d).length lineN) = true
      · rw [if_pos c] at h
        rw [Bool.and_eq_true] at c
        obtain ⟨h1, h2, h3⟩ := reprD_shown d c.1
        have hz := Nat.le_of_ble_eq_true c.2
        rw [h1] at h hz
        have fin : ∀ (h' : Heap) (tk : Nat) (t : Tok), (∀ b o, s.heap.get? b = some o → h'.get? b = some o) → EP X pins σ Q (.str d.shown t) { s with heap := h', toks := tk } := fun h' tk t hk => ⟨.str d.shown, H, I.kept hk, ⟨_, rfl⟩, h.val r rfl⟩
        have D := dat_Dp r 60 v x d q l
        obtain ⟨as, R⟩ := Dp.reads I d x u D rx
        cases v with
        | non => cases l; cases q; cases rx; exact PySem.P.repr_of_none (by have := fin s.heap (s.toks + 1) s.toks (fun _ _ e => e); simp only [PyData.shown] at this; exact this)
        | bl b => cases l; cases q; cases rx; exact PySem.P.repr_of_bool (by have := fin s.heap (s.toks + 1) s.toks (fun _ _ e => e); simp only [PyData.shown] at this; exact this)
        | int i =>
          cases l; cases q; obtain ⟨t, rfl⟩ := rx
          have hs := c.1
          simp only [smallD] at hs
          exact PySem.P.repr_of_int (Nat.le_of_ble_eq_true hs) (by have := fin s.heap (s.toks + 1) s.toks (fun _ _ e => e); simp only [PyData.shown] at this; exact this)
        | str z =>
          cases l; cases q; obtain ⟨t, rfl⟩ := rx
          simp only [PyData.shown] at hz
          exact PySem.P.repr_of_str (by have := fin s.heap (s.toks + 1) s.toks (fun _ _ e => e); simp only [PyData.shown] at this; exact this) hz
        | glo k => cases q
        | ref n =>
          obtain ⟨a, _, e⟩ := l
          subst e
          cases rx
          have hd := dat_depth 60 _ _ q
          exact repr_of_reads' R h2 (fun z => by rw [h3] at z; cases z) hg (by omega) (fun _ _ e => e) (fun h' t tk hk => fin h' tk t hk) hz
      · rw [if_neg c] at h; exact False.elim h
end
end MP
namespace MP
open PySem PySem.Spec PyProof.Rows L2
section
variable {X : Cx} {A : Nat → Addr} {W : XK}
theorem cl_len : CallR X (.builtin "len") (dCl X.K A W (biS .len)) := by
  intro pins s σ H xs us Q I rs ⟨φ, S, vs, r, ra, h⟩
  match vs, h with
  | [], h => exact False.elim h
  | _ :: _ :: _, h => exact False.elim h
  | [v], h =>
    obtain ⟨x, e, l⟩ := VRs.one ra
    subst e
    simp only [biS] at h
    cases q : lenS S v with
    | none => rw [q] at h; exact False.elim h
    | some n =>
      rw [q] at h
      exact call_len pins s σ H _ us Q I rs ⟨x, n, rfl, lenS_V r l q, h.val r rfl⟩
theorem cl_max2 (hc : X.calm = true) : CallR X (.builtin "max") (dCl X.K A W (biS .max2)) := by
  intro pins s σ H xs us Q I rs ⟨φ, S, vs, r, ra, h⟩
  match vs, h with
  | [.int i, .int j], h =>
    obtain ⟨x, y, e, l, m⟩ := VRs.two ra
    subst e
    cases l
    cases m
    exact call_max2 hc pins s σ H _ us Q I rs ⟨i, j, rfl, h.val r rfl⟩
  | [], h => exact False.elim h
  | [a], h => cases a <;> exact False.elim h
  | a :: b :: c :: d, h => cases a <;> cases b <;> exact False.elim h
  | [.non, b], h | [.bl _, b], h | [.str _, b], h | [.ref _, b], h | [.glo _, b], h => exact False.elim h
  | [.int i, .non], h | [.int i, .bl _], h | [.int i, .str _], h | [.int i, .ref _], h | [.int i, .glo _], h => exact False.elim h
theorem cl_min2 (hc : X.calm = true) : CallR X (.builtin "min") (dCl X.K A W (biS .min2)) := by
  intro pins s σ H xs us Q I rs ⟨φ, S, vs, r, ra, h⟩
  match vs, h with
  | [.int i, .int j], h =>
    obtain ⟨x, y, e, l, m⟩ := VRs.two ra
    subst e
    cases l
    cases m
    exact call_min2 hc pins s σ H _ us Q I rs ⟨i, j, rfl, h.val r rfl⟩
  | [], h => exact False.elim h
  | [a], h => cases a <;> exact False.elim h
  | a :: b :: c :: d, h => cases a <;> cases b <;> exact False.elim h
  | [.non, b], h | [.bl _, b], h | [.str _, b], h | [.ref _, b], h | [.glo _, b], h => exact False.elim h
  | [.int i, .non], h | [.int i, .bl _], h | [.int i, .str _], h | [.int i, .ref _], h | [.int i, .glo _], h => exact False.elim h
theorem cl_abs : CallR X (.builtin "abs") (dCl X.K A W (biS .abs)) := by
  intro pins s σ H xs us Q I rs ⟨φ, S, vs, r, ra, h⟩
  match vs, h with
  | [.int i], h =>
    obtain ⟨x, e, l⟩ := VRs.one ra
    subst e
    cases l
    exact call_abs pins s σ H _ us Q I rs ⟨i, rfl, h.val r rfl⟩
  | [], h => exact False.elim h
  | a :: b :: c, h => cases a <;> exact False.elim h
  | [.non], h | [.bl _], h | [.str _], h | [.ref _], h | [.glo _], h => exact False.elim h
theorem cl_int1 : CallR X (.type "int") (dCl X.K A W (biS .int1)) := by
  intro pins s σ H xs us Q I rs ⟨φ, S, vs, r, ra, h⟩
  match vs, h with
  | [.int i], h =>
    obtain ⟨x, e, l⟩ := VRs.one ra
    subst e
    cases l
    exact call_int1 pins s σ H _ us Q I rs (.inl ⟨i, rfl, h.val r rfl⟩)
  | [.bl i], h =>
    obtain ⟨x, e, l⟩ := VRs.one ra
    subst e
    cases l
    exact call_int1 pins s σ H _ us Q I rs (.inr ⟨i, rfl, h.val r rfl⟩)
  | [], h => exact False.elim h
  | a :: b :: c, h => cases a <;> exact False.elim h
  | [.non], h | [.str _], h | [.ref _], h | [.glo _], h => exact False.elim h
theorem cl_all (hc : X.calm = true) : CallR X (.builtin "all") (dCl X.K A W (biS .all)) := by
  intro pins s σ H xs us Q I rs ⟨φ, S, vs, r, ra, h⟩
  match vs, h with
  | [], h => exact False.elim h
  | _ :: _ :: _, h => exact False.elim h
  | [v], h =>
    obtain ⟨x, e, l⟩ := VRs.one ra
    subst e
    simp only [biS] at h
    cases q : (lstOf S v).bind blsOf with
    | none => rw [q] at h; exact False.elim h
    | some bs =>
      rw [q] at h
      obtain ⟨a, e, sq⟩ := bls_sq r l q
      subst e
      exact cr_all hc pins s σ H _ us Q I rs ⟨a, bs, rfl, sq, by rw [band_eq]; exact h.val r rfl⟩
theorem cl_any (hc : X.calm = true) : CallR X (.builtin "any") (dCl X.K A W (biS .any)) := by
  intro pins s σ H xs us Q I rs ⟨φ, S, vs, r, ra, h⟩
  match vs, h with
  | [], h => exact False.elim h
  | _ :: _ :: _, h => exact False.elim h
  | [v], h =>
    obtain ⟨x, e, l⟩ := VRs.one ra
    subst e
    simp only [biS] at h
    cases q : (lstOf S v).bind blsOf with
    | none => rw [q] at h; exact False.elim h
    | some bs =>
      rw [q] at h
      obtain ⟨a, e, sq⟩ := bls_sq r l q
      subst e
      exact cr_any hc pins s σ H _ us Q I rs ⟨a, bs, rfl, sq, by rw [bor_eq]; exact h.val r rfl⟩
theorem cl_sum (hc : X.calm = true) : CallR X (.builtin "sum") (dCl X.K A W (biS .sum)) := by
  intro pins s σ H xs us Q I rs ⟨φ, S, vs, r, ra, h⟩
  match vs, h with
  | [], h => exact False.elim h
  | _ :: _ :: _, h => exact False.elim h
  | [v], h =>
    obtain ⟨x, e, l⟩ := VRs.one ra
    subst e
    simp only [biS] at h
    cases q : (lstOf S v).bind intsOf with
    | none => rw [q] at h; exact False.elim h
    | some ns =>
      rw [q] at h
      obtain ⟨a, e, sq⟩ := nums_sq r l q
      subst e
      exact cr_sum hc pins s σ H _ us Q I rs ⟨a, ns, rfl, sq, by rw [isum_eq]; exact h.val r rfl⟩
theorem cl_max1 (hc : X.calm = true) : CallR X (.builtin "max") (dCl X.K A W (biS .max1)) := by
  intro pins s σ H xs us Q I rs ⟨φ, S, vs, r, ra, h⟩
  match vs, h with
  | [], h => exact False.elim h
  | _ :: _ :: _, h => exact False.elim h
  | [v], h =>
    obtain ⟨x, e, l⟩ := VRs.one ra
    subst e
    simp only [biS] at h
    cases q : (lstOf S v).bind intsOf with
    | none => rw [q] at h; exact False.elim h
    | some ns => cases ns with
      | nil => rw [q] at h; exact False.elim h
      | cons n ns =>
        rw [q] at h
        obtain ⟨a, e, sq⟩ := nums_sq r l q
        subst e
        refine cr_max hc pins s σ H _ us Q I rs ⟨a, n :: ns, rfl, sq, Nat.succ_pos _, fun m hm hy => ?_⟩
        obtain ⟨h1, h2, h3⟩ := imax_max ns n
        have e : m = imax n ns := by
          have q1 : m ≤ imax n ns := by
            rcases List.mem_cons.mp hm with e | e
            · rw [e]; exact h2
            · exact h3 m e
          have q2 : imax n ns ≤ m := by
            rcases h1 with e | e
            · rw [e]; exact hy n (List.mem_cons_self ..)
            · exact hy _ (List.mem_cons_of_mem _ e)
          omega
        rw [e]
        exact h.val r rfl
theorem cl_min1 (hc : X.calm = true) : CallR X (.builtin "min") (dCl X.K A W (biS .min1)) := by
  intro pins s σ H xs us Q I rs ⟨φ, S, vs, r, ra, h⟩
  match vs, h with
  | [], h => exact False.elim h
  | _ :: _ :: _, h => exact False.elim h
  | [v], h =>
    obtain ⟨x, e, l⟩ := VRs.one ra
    subst e
    simp only [biS] at h
    cases q : (lstOf S v).bind intsOf with
    | none => rw [q] at h; exact False.elim h
    | some ns => cases ns with
      | nil => rw [q] at h; exact False.elim h
      | cons n ns =>
        rw [q] at h
        obtain ⟨a, e, sq⟩ := nums_sq r l q
        subst e
        refine cr_min hc pins s σ H _ us Q I rs ⟨a, n :: ns, rfl, sq, Nat.succ_pos _, fun m hm hy => ?_⟩
        obtain ⟨h1, h2, h3⟩ := imin_min ns n
        have e : m = imin n ns := by
          have q1 : imin n ns ≤ m := by
            rcases List.mem_cons.mp hm with e | e
            · rw [e]; exact h2
            · exact h3 m e
          have q2 : m ≤ imin n ns := by
            rcases h1 with e | e
            · rw [e]; exact hy n (List.mem_cons_self ..)
            · exact hy _ (List.mem_cons_of_mem _ e)
          omega
        rw [e]
        exact h.val r rfl
theorem cl_sorted : CallR X (.builtin "sorted") (dCl X.K A W (biS .sorted)) := by
  intro pins s σ H xs us Q I rs ⟨φ, S, vs, r, ra, h⟩
  match vs, h with
  | [], h => exact False.elim h
  | _ :: _ :: _, h => exact False.elim h
  | [v], h =>
    obtain ⟨x, e, l⟩ := VRs.one ra
    subst e
    simp only [biS] at h
    cases q : (lstOf S v).bind intsOf with
    | none => rw [q] at h; exact False.elim h
    | some ns =>
      rw [q] at h
      obtain ⟨a, e, sq⟩ := nums_sq r l q
      subst e
      refine cr_sortedI pins s σ H _ us Q I rs ⟨a, ns, rfl, sq, fun ns' p h1 h2 hp => ?_⟩
      rw [sorted_uniq (h1.trans (isort_perm ns).symm) h2 (isort_sorted ns)]
      exact Post.push h r hp fun φ' le => ⟨_, VRs.ints _, upd_same⟩
theorem cl_list : CallR X (.type "list") (dCl X.K A W (biS .list)) := by
  intro pins s σ H xs us Q I rs ⟨φ, S, vs, r, ra, h⟩
  match vs, h with
  | [], h => exact False.elim h
  | _ :: _ :: _, h => exact False.elim h
  | [v], h =>
    obtain ⟨x, e, l⟩ := VRs.one ra
    subst e
    simp only [biS] at h
    cases q : seqOf S v with
    | none => rw [q] at h; exact False.elim h
    | some ws =>
      rw [q] at h
      obtain ⟨a, ys, e, h1, h2⟩ := seqOf_sq r l q
      subst e
      exact call_list_of pins s σ H _ us Q I rs ⟨a, ys, rfl, h2, fun p hp => Post.push h r hp fun φ' le => ⟨_, VRs.ext le h1, upd_same⟩⟩
theorem tupOf_sq {K : PySem.W.Frag} {φ : Loc} {S : Sto} {H : Hp} {v : Vl} {x : V} {xs : List Vl} (r : Rep K A φ S H) (l : VR A φ v x) (g : seqOf S v = some xs) (nl : lstOf S v = none) : ∃ a ys, x = .ref a ∧ VRs A φ xs ys ∧ SqT K H a ys := by
  cases v with
  | ref n =>
    unfold seqOf at g
    unfold lstOf at nl
    cases q : S.get n with
    | none => simp only [q] at g; cases g
    | some o => cases o with
      | lst zs => simp only [q] at nl; cases nl
      | rol zs => simp only [q] at nl; cases nl
      | tup zs =>
        simp only [q] at g; cases g
        obtain ⟨a, ys, h1, h2, h3⟩ := tupAt_sq (xs := xs) r l (by unfold tupAt; rw [q])
        exact ⟨a, ys, h1, h2, h3⟩
      | dK zs => simp only [q] at g; cases g
  | _ => cases g
theorem cl_tuple : CallR X (.type "tuple") (dCl X.K A W (biS .tuple)) := by
  intro pins s σ H xs us Q I rs ⟨φ, S, vs, r, ra, h⟩
  match vs, h with
  | [], h => exact False.elim h
  | _ :: _ :: _, h => exact False.elim h
  | [v], h =>
    obtain ⟨x, e, l⟩ := VRs.one ra
    subst e
    simp only [biS] at h
    cases q : lstOf S v with
    | some ws =>
      rw [q] at h
      obtain ⟨a, ys, e, h1, h2⟩ := lstOf_sq r l q
      subst e
      exact call_tuple_of pins s σ H _ us Q I rs ⟨a, ys, rfl, .inl ⟨h2, fun p hp => Post.push h r hp fun φ' le => ⟨_, VRs.ext le h1, upd_same⟩⟩⟩
    | none =>
      rw [q] at h
      cases q2 : seqOf S v with
      | none => rw [q2] at h; exact False.elim h
      | some ws =>
        rw [q2] at h
        obtain ⟨a, ys, e, h1, h2⟩ := tupOf_sq r l q2 q
        subst e
        exact call_tuple_of pins s σ H _ us Q I rs ⟨a, ys, rfl, .inr ⟨h2, h.val r l⟩⟩
/-- a built-in's name, what it is -/
def biNm : Bi → Str
  | .len => "len" | .max2 => "max" | .min2 => "min" | .int1 => "int" | .all => "all" | .any => "any" | .sum => "sum" | .sorted => "sorted" | .list => "list" | .tuple => "tuple" | .repr => "repr" | .max1 => "max" | .min1 => "min" | .abs => "abs"
def biIs : Bi → Value
  | .len => .builtin "len" | .max2 => .builtin "max" | .min2 => .builtin "min" | .int1 => .type "int" | .all => .builtin "all" | .any => .builtin "any" | .sum => .builtin "sum" | .sorted => .builtin "sorted" | .list => .type "list" | .tuple => .type "tuple"
  | .repr => .builtin "repr" | .max1 => .builtin "max" | .min1 => .builtin "min" | .abs => .builtin "abs"
theorem cl_bi (hc : X.calm = true) (hg : X.A.guards = some []) (hu : X.A.units + 100 < cLine) (b : Bi) : CallR X (biIs b) (dCl X.K A W (biS b)) := by
  cases b
  · exact cl_len
  · exact cl_max2 hc
  · exact cl_min2 hc
  · exact cl_int1
  · exact cl_all hc
  · exact cl_any hc
  · exact cl_sum hc
  · exact cl_sorted
  · exact cl_list
  · exact cl_tuple
  · exact cl_repr hg hu
  · exact cl_max1 hc
  · exact cl_min1 hc
  · exact cl_abs
theorem bi_boot (b : Bi) : bootBuiltins (biNm b) = some (biIs b) ∧ biNm b ≠ "__name__" ∧ (biNm b == ("__debug__" : Str)) = false := by
  cases b <;> decide +kernel
theorem pe_bi {b : Bi} {r : List V → Hp → VK → Prop} {e : Expr} {es : List Expr} {p pos : Pos} {t : TA} (hr : CallR X (biIs b) r) (hg : Gl X (biNm b)) (hm : X.mg (biNm b) = none) (ha : PA X (e :: es) t)
    (he : starEach (e :: es) X.env = (false, eval e X.env) :: starEach es X.env) (hpl : (backTo pos (starEach es X.env)).any (·.1) = false) : PE X (.Call (.Name (biNm b) p) (e :: es) [] pos) (tCB r t) := by
  obtain ⟨h1, h2, h3⟩ := bi_boot b
  cases b <;> first
    | exact pe_callB hr hg hm h1 ha h2 h3 he hpl
    | exact pe_callTy hr hg hm h1 ha h2 h3 he hpl
def mtNm : Mt → Str
  | .append => "append" | .insert => "insert" | .count => "count" | .bitLength => "bit_length" | .pop0 => "pop"
def mtId : Mt → String
  | .append => "list.append" | .insert => "list.insert" | .count => "list.count" | .bitLength => "" | .pop0 => "list.pop"
theorem mt_app : MtR X "list.append" (dMt X.K A W (mtS .append)) := by
  intro pins s σ H x xs v us Q I rx rs ⟨φ, S, u, vs, r, ru, ra, h⟩
  match u, vs, h with
  | .ref n, [y], h =>
    simp only [mtS] at h
    obtain ⟨y', e, l⟩ := VRs.one ra
    subst e
    cases q : S.get n with
    | none => rw [q] at h; exact False.elim h
    | some o =>
      rw [q] at h
      cases o with
      | lst zs =>
        obtain ⟨p, e, f, ob⟩ := VR.ref_of r ru q
        obtain ⟨ys, h1, h2⟩ := ob
        simp only at h
        by_cases c : Nat.blt zs.length lineN = true
        · rw [if_pos c] at h
          have hz : ys.length < sizeLine := by rw [← Paired.len h1]; exact Nat.le_of_ble_eq_true c
          exact mt_append pins s σ H x _ v us Q I rx rs ⟨p, ys, y', e, rfl, h2, hz, Post.write h r q rfl rfl f ⟨_, Paired.app h1 (.cons l .nil), upd_same⟩ rfl⟩
        · rw [if_neg c] at h; exact False.elim h
      | _ => exact False.elim h
  | .non, _, h | .bl _, _, h | .int _, _, h | .str _, _, h | .glo _, _, h => exact False.elim h
  | .ref n, [], h => exact False.elim h
  | .ref n, _ :: _ :: _, h => exact False.elim h
theorem mt_ins : MtR X "list.insert" (dMt X.K A W (mtS .insert)) := by
  intro pins s σ H x xs v us Q I rx rs ⟨φ, S, u, vs, r, ru, ra, h⟩
  match u, vs, h with
  | .ref n, [.int i, y], h =>
    simp only [mtS] at h
    obtain ⟨i', y', e, l0, l⟩ := VRs.two ra
    cases l0
    subst e
    cases q : S.get n with
    | none => rw [q] at h; exact False.elim h
    | some o =>
      rw [q] at h
      cases o with
      | lst zs =>
        obtain ⟨p, e, f, ob⟩ := VR.ref_of r ru q
        obtain ⟨ys, h1, h2⟩ := ob
        simp only at h
        by_cases c : (Nat.blt zs.length lineN && (decide (0 ≤ i) && decide (i < 2 ^ 63))) = true
        · rw [if_pos c] at h
          simp only [Bool.and_eq_true, decide_eq_true_eq] at c
          have hz : ys.length < sizeLine := by rw [← Paired.len h1]; exact Nat.le_of_ble_eq_true c.1
          exact mt_insert pins s σ H x _ v us Q I rx rs ⟨p, ys, i, y', e, rfl, h2, hz, c.2.1, c.2.2, Post.write h r q rfl rfl f ⟨_, Paired.app (Paired.app (Paired.tk _ h1) (.cons l .nil)) (Paired.dr _ h1), upd_same⟩ rfl⟩
        · rw [if_neg c] at h; exact False.elim h
      | _ => exact False.elim h
  | .non, _, h | .bl _, _, h | .int _, _, h | .str _, _, h | .glo _, _, h => exact False.elim h
  | .ref n, [], h => exact False.elim h
  | .ref n, [a], h => cases a <;> exact False.elim h
  | .ref n, a :: b :: c :: d, h => cases a <;> exact False.elim h
  | .ref n, [.non, _], h | .ref n, [.bl _, _], h | .ref n, [.str _, _], h | .ref n, [.ref _, _], h | .ref n, [.glo _, _], h => exact False.elim h
theorem mt_cnt : MtR X "list.count" (dMt X.K A W (mtS .count)) := by
  intro pins s σ H x xs v us Q I rx rs ⟨φ, S, u, vs, r, ru, ra, h⟩
  match vs, h with
  | [.int k], h =>
    simp only [mtS] at h
    obtain ⟨y', e, l⟩ := VRs.one ra
    cases l
    subst e
    cases q : (lstOf S u).bind intsOf with
    | none => rw [q] at h; exact False.elim h
    | some ns =>
      rw [q] at h
      obtain ⟨a, e, sq⟩ := nums_sq r ru q
      subst e
      exact mt_lcount pins s σ H _ _ v us Q I rx rs ⟨a, ns, k, rfl, rfl, sq, by rw [icount_eq]; exact h.val r rfl⟩
  | [], h => cases u <;> exact False.elim h
  | a :: b :: c, h => cases u <;> cases a <;> exact False.elim h
  | [.non], h | [.bl _], h | [.str _], h | [.ref _], h | [.glo _], h => cases u <;> exact False.elim h
theorem mt_pp : MtR X "list.pop" (dMt X.K A W (mtS .pop0)) := by
  intro pins s σ H x xs v us Q I rx rs ⟨φ, S, u, vs, r, ru, ra, h⟩
  match u, vs, h with
  | .ref n, [], h =>
    simp only [mtS] at h
    cases VRs.zero ra
    cases q : S.get n with
    | none => rw [q] at h; exact False.elim h
    | some o =>
      rw [q] at h
      cases o with
      | lst zs =>
        obtain ⟨p, e, f, ob⟩ := VR.ref_of r ru q
        obtain ⟨ys, h1, h2⟩ := ob
        simp only at h
        cases q2 : zs[zs.length - 1]? with
        | none => rw [q2] at h; exact False.elim h
        | some y =>
          rw [q2] at h
          obtain ⟨y', h3, h4⟩ := Paired.at1 h1 q2
          rw [Paired.len h1] at h3
          exact mt_pop pins s σ H x _ v us Q I rx rs ⟨p, ys, y', e, rfl, h2, h3, Post.write h r q rfl rfl f ⟨_, Paired.dl h1, upd_same⟩ h4⟩
      | _ => exact False.elim h
  | .non, _, h | .bl _, _, h | .int _, _, h | .str _, _, h | .glo _, _, h => exact False.elim h
  | .ref n, _ :: _, h => exact False.elim h
theorem lst_ty {K : PySem.W.Frag} {φ : Loc} {S : Sto} {H : Hp} {u : Vl} {x : V} (r : Rep K A φ S H) (l : VR A φ u x) (h : (lstOf S u).isSome = true) : tyV K "list" x H := by
  cases q : lstOf S u with
  | none => rw [q] at h; cases h
  | some xs =>
    obtain ⟨a, ys, e, h1, h2⟩ := lstOf_sq r l q
    subst e
    exact .inl ⟨rfl, ys, h2⟩
/-- x[i] = v -/
theorem set_set {W : XK} : PSet X fun o i v H Q => ∃ φ S a b c, Rep X.K A φ S H ∧ VR A φ a o ∧ VR A φ b i ∧ VR A φ c v ∧ Post X.K A (fun _ (_ : Unit) (_ : Unit) => True) φ H (setS a b c S) (fun _ H' => Q H') W := by
  intro pins s σ H o i v ov iv u Q I ro ri rv ⟨φ, S, a, b, c, r, ra, rb, rc, h⟩
  match a, b, h with
  | .ref n, .int k, h =>
    simp only [setS] at h
    cases q : S.get n with
    | none => rw [q] at h; exact False.elim h
    | some ob =>
      rw [q] at h
      cases ob with
      | lst zs =>
        obtain ⟨p, e, f, ob⟩ := VR.ref_of r ra q
        obtain ⟨ys, h1, h2⟩ := ob
        simp only at h
        cases q2 : ixI zs.length k with
        | none => rw [q2] at h; exact False.elim h
        | some j =>
          rw [q2] at h
          refine set_list pins s σ H o i v ov iv u Q I ro ri rv ⟨p, ys, k, j, e, rb, h2, by rw [← Paired.len h1, ← ixI_N]; exact q2, ?_⟩
          obtain ⟨ex, r'⟩ := r.write (o' := .lst (zs.set j c)) (u := .lst (ys.set j v)) q rfl rfl f ⟨_, Paired.set1 rc j h1, upd_same⟩
          exact h φ _ () ex r' True.intro
      | _ => exact False.elim h
  | .non, _, h | .bl _, _, h | .int _, _, h | .str _, _, h | .glo _, _, h => exact False.elim h
  | .ref n, .non, h | .ref n, .bl _, h | .ref n, .str _, h | .ref n, .ref _, h | .ref n, .glo _, h => exact False.elim h
end
end MP
namespace MP
open PySem PySem.Spec PyProof.Rows L2
def EnvR (A : Nat → Addr) (φ : Loc) (ρ : MP.Env) (σ : L2.St) : Prop := ρ.length = σ.length ∧ ∀ (i : Nat) (v : Vl), ρ[i]? = some (some v) → ∃ x, σ[i]? = some (some x) ∧ VR A φ v x
theorem EnvR.ext {A : Nat → Addr} {φ φ1 : Loc} {ρ : MP.Env} {σ : L2.St} (h : EnvR A φ ρ σ) (e : ∀ i a, φ i = some a → φ1 i = some a) : EnvR A φ1 ρ σ :=
  ⟨h.1, fun i v q => let ⟨x, h1, h2⟩ := h.2 i v q; ⟨x, h1, h2.ext e⟩⟩
theorem EnvR.set {A : Nat → Addr} {φ : Loc} {ρ : MP.Env} {σ : L2.St} {v : Vl} {x : V} (h : EnvR A φ ρ σ) (r : VR A φ v x) (i : Nat) : EnvR A φ (ρ.set i (some v)) (σ.set i (some x)) := by
  refine ⟨by rw [List.length_set, List.length_set]; exact h.1, fun j w q => ?_⟩
  rw [List.getElem?_set] at q ⊢
  by_cases e : i = j
  · rw [if_pos e] at q ⊢
    by_cases c : i < ρ.length
    · rw [if_pos (by omega)] at q
      rw [if_pos (by have := h.1; omega)]
      cases q
      exact ⟨x, rfl, r⟩
    · rw [if_neg (by omega)] at q
      cases q
  · rw [if_neg e] at q ⊢
    exact h.2 j w q
theorem wipe_len (ρ : MP.Env) : ∀ vs : List Nat, (MP.wipe ρ vs).length = ρ.length
  | [] => rfl
  | v :: vs => by unfold MP.wipe; rw [List.length_set, wipe_len ρ vs]
theorem EnvR.wipe {A : Nat → Addr} {φ : Loc} {ρ : MP.Env} {σ : L2.St} (h : EnvR A φ ρ σ) : ∀ vs : List Nat, EnvR A φ (MP.wipe ρ vs) (L2.wipe σ vs)
  | [] => h
  | v :: vs => by
    have ih := EnvR.wipe h vs
    unfold MP.wipe L2.wipe
    refine ⟨by rw [List.length_set, List.length_set]; exact ih.1, fun j w q => ?_⟩
    rw [List.getElem?_set] at q ⊢
    by_cases e : v = j
    · rw [if_pos e] at q
      split at q <;> cases q
    · rw [if_neg e] at q ⊢
      exact ih.2 j w q
/-- the slots outside sl stay -/
def Same (sl : List Nat) (σ σ' : L2.St) : Prop := σ'.length = σ.length ∧ ∀ i, i ∉ sl → σ'[i]? = σ[i]?
theorem Same.refl {sl : List Nat} {σ : L2.St} : Same sl σ σ := ⟨rfl, fun _ _ => rfl⟩
theorem Same.trans {sl : List Nat} {σ σ1 σ2 : L2.St} (a : Same sl σ σ1) (b : Same sl σ1 σ2) : Same sl σ σ2 := ⟨b.1.trans a.1, fun i h => (b.2 i h).trans (a.2 i h)⟩
theorem Same.mono {sl sm : List Nat} {σ σ1 : L2.St} (a : Same sl σ σ1) (h : ∀ i ∈ sl, i ∈ sm) : Same sm σ σ1 := ⟨a.1, fun i n => a.2 i fun z => n (h i z)⟩
theorem wipeL_get (σ : L2.St) : ∀ (vs : List Nat) (i : Nat), (L2.wipe σ vs)[i]? = if i ∈ vs ∧ i < σ.length then some none else σ[i]?
  | [], i => by simp [L2.wipe]
  | v :: vs, i => by
    unfold L2.wipe
    rw [List.getElem?_set, wipeL_get σ vs i, L2.wipe_length]
    by_cases e : v = i
    · subst e
      rw [if_pos rfl]
      by_cases c : v < σ.length
      · rw [if_pos c, if_pos ⟨List.mem_cons_self .., c⟩]
      · rw [if_neg c, if_neg (fun z => c z.2)]
        rw [List.getElem?_eq_none_iff.mpr (by omega)]
    · rw [if_neg e]
      by_cases c : i ∈ vs ∧ i < σ.length
      · rw [if_pos c, if_pos ⟨List.mem_cons_of_mem _ c.1, c.2⟩]
      · rw [if_neg c, if_neg]
        rintro ⟨h1, h2⟩
        rcases List.mem_cons.mp h1 with z | z
        · exact e z.symm
        · exact c ⟨z, h2⟩
theorem Same.wiped {sl own : List Nat} {σ σ2 : L2.St} (h : Same sl (L2.wipe σ own) σ2) (hs : ∀ i ∈ sl, i ∈ own) : L2.wipe σ2 own = L2.wipe σ own := by
  refine List.ext_getElem? fun i => ?_
  have hl : σ2.length = σ.length := by rw [h.1, L2.wipe_length]
  rw [wipeL_get, wipeL_get, hl]
  by_cases c : i ∈ own ∧ i < σ.length
  · rw [if_pos c, if_pos c]
  · rw [if_neg c, if_neg c]
    by_cases d : i ∈ own
    · have : ¬ i < σ.length := fun z => c ⟨d, z⟩
      rw [List.getElem?_eq_none_iff.mpr (by omega), List.getElem?_eq_none_iff.mpr (by omega)]
    · rw [h.2 i fun z => d (hs i z), wipeL_get, if_neg c]
mutual
def slots : Tg → List Nat
  | .name i => [i]
  | .tup ts => slotss ts
  | .sub _ _ => []
def slotss : Tgs → List Nat
  | .nil => []
  | .cons t r => slots t ++ slotss r
end
/-- an iterator of the small language is one of the model's -/
def ItR (K : PySem.W.Frag) (A : Nat → Addr) (φ : Loc) (J : Itr) (I : L2.It) : Prop :=
  ∀ φ' S' H' i, (∀ n a, φ n = some a → φ' n = some a) → Rep K A φ' S' H' → match next J i S' with
    | none => True
    | some none => I.stop i H'
    | some (some (v, S1)) => I.go i H' ∧ ∀ x H2, I.yld i H' x H2 → ∃ φ2, Ext φ' H' φ2 H2 ∧ Rep K A φ2 S1 H2 ∧ VR A φ2 v x
section
variable (K : PySem.W.Frag) (A : Nat → Addr) (cl : Nat → List Vl → Sto → R Vl) (W : XK)
def dE (i : E) : TE := fun σ H Q => ∃ φ S ρ, Rep K A φ S H ∧ EnvR A φ ρ σ ∧ Post K A (VR A) φ H (ev cl i ρ S) Q W
def dA (i : Es) : TA := fun σ H Q => ∃ φ S ρ, Rep K A φ S H ∧ EnvR A φ ρ σ ∧ Post K A (VRs A) φ H (evs cl i ρ S) Q W
def dT (i : Tt) : TT := fun σ H Q => ∃ φ S ρ, Rep K A φ S H ∧ EnvR A φ ρ σ ∧ Post K A (fun _ a b => a = b) φ H (tst cl i ρ S) Q W
def dG (t : Tg) : TG := fun x σ H Q => ∃ φ S ρ v, Rep K A φ S H ∧ EnvR A φ ρ σ ∧ VR A φ v x ∧ Post K A (fun φ' ρ' σ' => EnvR A φ' ρ' σ' ∧ Same (slots t) σ σ') φ H (asn cl t v ρ S) Q W
def dGs (t : Tgs) : TGs := fun xs σ H Q => ∃ φ S ρ vs, Rep K A φ S H ∧ EnvR A φ ρ σ ∧ VRs A φ vs xs ∧ Post K A (fun φ' ρ' σ' => EnvR A φ' ρ' σ' ∧ Same (slotss t) σ σ') φ H (asns cl t vs ρ S) Q W
def dI (t : MP.It) : TI := fun σ H R => ∃ φ S ρ, Rep K A φ S H ∧ EnvR A φ ρ σ ∧ Post K A (fun φ' J I => ItR K A φ' J I) φ H (itr cl t ρ S) R W
end
structure Gam where
  N : List Str
  G : List Str
  F : List (Str × List Str)
  calls : List (Nat × Nat × List Vl)
  kcalls : List (Nat × Nat × List Str × List Nat)
def pick {α : Type} (l : List α) (pm : List Nat) : List α := pm.filterMap fun i => l[i]?
def biNames : List Str := ["len", "max", "min", "int", "all", "any", "sum", "sorted", "list", "tuple", "repr", "abs", "isinstance", "range", "enumerate", "zip", "bool", "str", "dict"]
/-- a function's promise: what the small language's call gives -/
def spF (K : PySem.W.Frag) (A : Nat → Addr) (cl : Nat → List Vl → Sto → R Vl) (f np : Nat) : Sp := fun vs H Q E => vs.length = np ∧ ∃ φ S us, Rep K A φ S H ∧ VRs A φ us vs ∧ Post K A (VR A) φ H (cl f us S) Q E
structure FnOK (P : Program) (w : World) (K : PySem.W.Frag) (mg : Str → Option Value) (base : Heap) (Γ : Gam) (k : Nat) (cl : Nat → List Vl → Sto → R Vl) (A : Nat → Addr) (f : Nat) (nm : Str) (ps : List Str) : Prop where
  glo : mg nm = some (.ref (A f))
  kp : PySem.W.keepIn K (.ref (A f)) = true
  fd : ∃ fd, FnG P w K mg base k (A f) fd ps (spF K A cl f ps.length) ∧
    (∀ n dv, (f, n, dv) ∈ Γ.calls → ∃ ds dvs, Vals dvs ds ∧ (∀ φ, VRs A φ dv dvs) ∧ n + dv.length = ps.length ∧ PySem.W.keepIn K (.ref (A f)) = true ∧ L2.Binds K fd ps ds) ∧
    (∀ n ks pm, (f, n, ks, pm) ∈ Γ.kcalls → pm.length = ps.length ∧ (∀ j ∈ pm, j < n + ks.length) ∧ ∀ (s : Shared) (us ws : List Value), K.In s.heap → us.length = n → ws.length = ks.length → BindsTo s fd ⟨us, ks.zip ws⟩ (ps.zip (pick (us ++ ws) pm)))
structure ModOk (P : Program) (w : World) (K : PySem.W.Frag) (mg : Str → Option Value) (base : Heap) (Γ : Gam) (k : Nat) (cl : Nat → List Vl → Sto → R Vl) (A : Nat → Addr) : Prop where
  glo : ∀ i x, Γ.G[i]? = some x → mg x = some (.ref (A i))
  bi : ∀ x ∈ biNames, mg x = none
  fn : ∀ f nm ps, Γ.F[f]? = some (nm, ps) → FnOK P w K mg base Γ k cl A f nm ps
  dbg : ∀ x, x ∈ Γ.N ∨ x ∈ Γ.G ∨ x ∈ Γ.F.map (·.1) → (x == ("__debug__" : Str)) = false ∧ (x == ("__classdict__" : Str)) = false
structure XOk (X : Cx) (Γ : Gam) (sc : Scope) (k : Nat) (cl : Nat → List Vl → Sto → R Vl) (A : Nat → Addr) (W : XK) : Prop where
  N : X.N = Γ.N
  nd : Γ.N.Nodup
  sc : X.env.scope = sc
  calm : X.calm = true
  gd : X.A.guards = some []
  md : ModOk X.prog X.w X.K X.mg X.base Γ k cl A
  rm : Room k X.A
  tk : Takes X fun c d _ H => W c d H
/-- the names that the block itself binds -/
def TgOk (X : Cx) (own : Scope) : Prop := ∀ x, L2.Loc own x → L2.Loc X.env.scope x ∧ (X.fn x = true ∨ X.env.scope.names.lookup x = some .local)
theorem XOk.un {X : Cx} {Γ : Gam} {sc : Scope} {k : Nat} {cl : Nat → List Vl → Sto → R Vl} {A : Nat → Addr} {W : XK} (h : XOk X Γ sc k cl A W) : X.A.units + 200 < cLine := by
  have := h.rm.un
  omega
section
variable {X : Cx}
theorem _root_.L2.PE.imp {e : Expr} {t t' : TE} (h : PE X e t) (f : ∀ σ H Q, t' σ H Q → t σ H Q) : PE X e t' := ⟨fun pins s σ H Q I q => h.run pins s σ H Q I (f _ _ _ q)⟩
theorem _root_.L2.PT.imp {e : Expr} {t t' : TT} (h : PT X e t) (f : ∀ σ H Q, t' σ H Q → t σ H Q) : PT X e t' := ⟨fun pins s σ H Q I q => h.run pins s σ H Q I (f _ _ _ q)⟩
theorem _root_.L2.PW.imp {e : Expr} {t t' : TT} (h : PW X e t) (f : ∀ σ H Q, t' σ H Q → t σ H Q) : PW X e t' := ⟨fun wh pins s σ H Q I q => h.run wh pins s σ H Q I (f _ _ _ q)⟩
theorem _root_.L2.PA.imp {e : List Expr} {t t' : TA} (h : PA X e t) (f : ∀ σ H Q, t' σ H Q → t σ H Q) : PA X e t' := ⟨fun pos pins s σ H Q I q => h.run pos pins s σ H Q I (f _ _ _ q)⟩
theorem _root_.L2.PK.imp {e : List Keyword} {t t' : TA} (h : PK X e t) (f : ∀ σ H Q, t' σ H Q → t σ H Q) : PK X e t' := ⟨fun pos pins s σ H Q I q => h.run pos pins s σ H Q I (f _ _ _ q)⟩
theorem _root_.L2.PG.imp {e : Expr} {t t' : TG} (h : PG X e t) (f : ∀ v σ H Q, t' v σ H Q → t v σ H Q) : PG X e t' := ⟨fun pins s σ H v u Q I r q => h.run pins s σ H v u Q I r (f _ _ _ _ q)⟩
theorem _root_.L2.PG.or {e : Expr} {t t' : TG} (h : PG X e t) (h' : PG X e t') : PG X e (fun v σ H Q => t v σ H Q ∨ t' v σ H Q) := ⟨fun pins s σ H v u Q I r q => by
  rcases q with q | q
  · exact h.run pins s σ H v u Q I r q
  · exact h'.run pins s σ H v u Q I r q⟩
theorem _root_.L2.PGs.imp {e : List Expr} {t t' : TGs} (h : PGs X e t) (f : ∀ v σ H Q, t' v σ H Q → t v σ H Q) : PGs X e t' := ⟨fun pins s σ H v u Q I r q => h.run pins s σ H v u Q I r (f _ _ _ _ q)⟩
theorem _root_.L2.PI.imp {tg e : Expr} {t t' : TI} (h : PI X tg e t) (f : ∀ σ H Q, t' σ H Q → t σ H Q) : PI X tg e t' := ⟨fun pins s σ H Q I q => h.run pins s σ H Q I (f _ _ _ q)⟩
theorem _root_.L2.PI.or {tg e : Expr} {t t' : TI} (h : PI X tg e t) (h' : PI X tg e t') : PI X tg e (fun σ H Q => t σ H Q ∨ t' σ H Q) := ⟨fun pins s σ H Q I q => by
  rcases q with q | q
  · exact h.run pins s σ H Q I q
  · exact h'.run pins s σ H Q I q⟩
end
theorem Post.imp {K : PySem.W.Frag} {A : Nat → Addr} {φ : Loc} {H : Hp} {W : XK} {α β : Type} {Rl : Loc → α → β → Prop} {r : R α} {Q Q' : β → Hp → Prop} (h : Post K A Rl φ H r Q W) (f : ∀ x H', Q x H' → Q' x H') : Post K A Rl φ H r Q' W := by
  cases r with
  | ok v S' => exact fun φ' H' x e r l => f x H' (h φ' H' x e r l)
  | exc k v S' => exact h
  | bad => exact h
/-- the two runs in a row -/
theorem Post.two {K : PySem.W.Frag} {A : Nat → Addr} {φ : Loc} {H : Hp} {W : XK} {α β γ δ : Type} {Rl : Loc → α → β → Prop} {Rm : Loc → γ → δ → Prop} {r : R α} {f : α → Sto → R γ} {Q : δ → Hp → Prop} {Q1 : β → Hp → Prop} (h : Post K A Rm φ H (r.bind f) Q W)
    (k : ∀ v S1 φ1 H1 x, Ext φ H φ1 H1 → Rep K A φ1 S1 H1 → Rl φ1 v x → Post K A Rm φ1 H1 (f v S1) Q W → Q1 x H1) : Post K A Rl φ H r Q1 W := h.bind k
def okX : Expr → Bool
  | .Starred .. => false | .Set .. => false | .Slice .. => false | .SetComp .. => false | .DictComp .. => false | _ => true
theorem star_ok {e : Expr} (h : okX e = true) (es : List Expr) (env : PySem.Env) : starEach (e :: es) env = (false, eval e env) :: starEach es env := by
  cases e <;> first | rfl | cases h
theorem asgE_ok {e : Expr} (h : okX e = true) (es : List Expr) (env : PySem.Env) : assignEach (e :: es) env = (false, assign e env) :: assignEach es env := by
  cases e <;> first | rfl | cases h
theorem plain_ix {e : Expr} (h : okX e = true) : PlainIx e := by
  cases e <;> first | exact fun _ _ => rfl | cases h
theorem fold_ok {e : Expr} (h : okX e = true) (env : PySem.Env) (x : Value) : foldedSetIterable e env x = pure x := by
  cases e <;> first | rfl | cases h
theorem mark_ok {e : Expr} (h : okX e = true) (op : CmpOp) : behindInMarks op e = false := by
  cases e <;> first | rfl | cases h
theorem back_ok {pos : Pos} {env : PySem.Env} : ∀ {es : List Expr}, es.all okX = true → (backTo pos (starEach es env)).any (·.1) = false
  | [], _ => rfl
  | e :: es, h => by
    rw [List.all_cons, Bool.and_eq_true] at h
    rw [star_ok h.1]
    show (false || (backTo pos (starEach es env)).any (·.1)) = false
    rw [back_ok h.2]
    rfl
theorem asgE_len {env : PySem.Env} : ∀ {es : List Expr}, es.all okX = true → (assignEach es env).length = es.length ∧ (assignEach es env).findIdx? (·.1) = none
  | [], _ => ⟨rfl, rfl⟩
  | e :: es, h => by
    rw [List.all_cons, Bool.and_eq_true] at h
    obtain ⟨h1, h2⟩ := asgE_len (env := env) h.2
    rw [asgE_ok h.1]
    refine ⟨by rw [List.length_cons, h1, List.length_cons], ?_⟩
    rw [List.findIdx?_cons, h2]
    rfl
theorem PA.all {X : Cx} {e : Expr} {es : List Expr} {te : TE} {t : TA} (h : okX e = true) (ha : PE X e te) (hr : PA X es t) : PA X (e :: es) (tCons te t) := pa_cons ha hr (star_ok h es X.env)
end MP
namespace MP
open PySem PySem.Spec PyProof.Rows L2
section
variable {X : Cx} {Γ : Gam} {sc : Scope} {k : Nat} {cl : Nat → List Vl → Sto → R Vl} {A : Nat → Addr} {W : XK} {x y z e : Expr} {pos : Pos}
theorem f_val {c : V} {v : Vl} {i : E} (h : PE X e (tC c)) (hi : ∀ ρ S, ev cl i ρ S = .ok v S) (r : ∀ φ, VR A φ v c) : PE X e (dE X.K A cl W i) :=
  h.imp fun σ H Q ⟨φ, S, ρ, r1, _, p⟩ => by
    rw [hi] at p
    exact p.now r1 (r φ)
theorem f_var (C : XOk X Γ sc k cl A W) {i : Nat} {n : Str} (hN : Γ.N[i]? = some n) (hv : Vis sc n) : PE X (.Name n pos) (dE X.K A cl W (.var i)) := by
  obtain ⟨h1, h2⟩ := C.md.dbg n (.inl (List.mem_of_getElem? hN))
  refine (pe_var (i := i) (by rw [C.N]; exact hN) (by rw [C.sc]; exact hv) h1 h2).imp fun σ H Q ⟨φ, S, ρ, r1, en, p⟩ => ?_
  have p : Post X.K A (VR A) φ H (match ρ[i]? with | some (some v) => .ok v S | _ => .bad) Q W := p
  cases q : ρ[i]? with
  | none => rw [q] at p; exact False.elim p
  | some o => cases o with
    | none => rw [q] at p; exact False.elim p
    | some v =>
      rw [q] at p
      obtain ⟨x, h3, h4⟩ := en.2 i v q
      exact ⟨x, h3, p.now r1 h4⟩
theorem f_glo (C : XOk X Γ sc k cl A W) {i : Nat} {n : Str} (hN : Γ.G[i]? = some n) (hg : sc.names.lookup n = some .globalImplicit) : PE X (.Name n pos) (dE X.K A cl W (.glo i)) := by
  obtain ⟨h1, h2⟩ := C.md.dbg n (.inr (.inl (List.mem_of_getElem? hN)))
  exact f_val (v := .glo i) (pe_glob (v := .ref (A i)) (by show X.env.scope.names.lookup n = _; rw [C.sc]; exact hg) (C.md.glo i n hN) rfl h1) (fun _ _ => rfl) fun _ => rfl
theorem f_bin {o : Op2} {a b : E} (ha : PE X x (dE X.K A cl W a)) (hb : PE X y (dE X.K A cl W b)) : PE X (.BinOp x (opOf o) y pos) (dE X.K A cl W (.bin o a b)) :=
  (pe_op (op_bin (A := A) (W := W) o) ha hb).imp fun σ H Q ⟨φ, S, ρ, r, en, p⟩ => ⟨φ, S, ρ, r, en, Post.bind p fun u S1 φ1 H1 x e1 r1 l1 p1 => ⟨φ1, S1, ρ, r1, en.ext e1.le, Post.bind p1 fun v S2 φ2 H2 y e2 r2 l2 p2 =>
    ⟨φ2, S2, u, v, r2, l1.ext e2.le, l2, p2⟩⟩⟩
theorem f_cmp (C : XOk X Γ sc k cl A W) {c : Cm} {a b : E} (hk : okX y = true) (ha : PE X x (dE X.K A cl W a)) (hb : PE X y (dE X.K A cl W b)) : PE X (.Compare x [cmOf c] [y] pos) (dE X.K A cl W (.cmp c a b)) :=
  (pe_cmpR (op_cmp (A := A) (W := W) (by have := C.un; omega) c) ha hb (mark_ok hk _)).imp fun σ H Q ⟨φ, S, ρ, r, en, p⟩ => ⟨φ, S, ρ, r, en, Post.bind p fun u S1 φ1 H1 x e1 r1 l1 p1 => ⟨φ1, S1, ρ, r1, en.ext e1.le, Post.bind p1 fun v S2 φ2 H2 y e2 r2 l2 p2 =>
    ⟨φ2, S2, u, v, r2, l1.ext e2.le, l2, p2⟩⟩⟩
/-- an answer that must be a bool -/
theorem Post.blk {K : PySem.W.Frag} {φ : Loc} {H : Hp} {r : R Vl} {Q : Bool → Hp → Prop} (h : Post K A (fun _ (a b : Bool) => a = b) φ H (r.bind fun z S => blR z S) Q W) : Post K A (VR A) φ H r (fun x H' => ∃ b, x = .bl b ∧ Q b H') W :=
  h.bind fun v S1 φ1 H1 x e1 r1 l1 p1 => by
    cases v with
    | bl b => exact ⟨b, l1, p1.now r1 rfl⟩
    | _ => exact False.elim p1
theorem ft_cmp (C : XOk X Γ sc k cl A W) {c : Cm} {a b : E} (hk : okX y = true) (ha : PE X x (dE X.K A cl W a)) (hb : PE X y (dE X.K A cl W b)) : PT X (.Compare x [cmOf c] [y] pos) (dT X.K A cl W (.cmp c a b)) :=
  (pt_cmpR (op_cmp (A := A) (W := W) (by have := C.un; omega) c) ha hb (mark_ok hk _)).imp fun σ H Q ⟨φ, S, ρ, r, en, p⟩ => ⟨φ, S, ρ, r, en, Post.bind p fun u S1 φ1 H1 x e1 r1 l1 p1 => ⟨φ1, S1, ρ, r1, en.ext e1.le, Post.bind p1 fun v S2 φ2 H2 y e2 r2 l2 p2 =>
    ⟨φ2, S2, u, v, r2, l1.ext e2.le, l2, Post.blk p2⟩⟩⟩
theorem f_chn (C : XOk X Γ sc k cl A W) {c d : Cm} {a b i : E} (hy : okX y = true) (hz : okX z = true) (ha : PE X x (dE X.K A cl W a)) (hb : PE X y (dE X.K A cl W b)) (hc : PE X z (dE X.K A cl W i)) :
    PE X (.Compare x [cmOf c, cmOf d] [y, z] pos) (dE X.K A cl W (.chn c d a b i)) := by
  have hu : X.A.units + 64 < cLine := by have := C.un; omega
  refine (pe_chain (op_cmp (A := A) (W := W) hu c) (op_cmp (A := A) (W := W) hu d) ha hb hc (mark_ok hz _)).imp fun σ H Q ⟨φ, S, ρ, r, en, p⟩ => ⟨φ, S, ρ, r, en, Post.bind p fun u S1 φ1 H1 x e1 r1 l1 p1 => ⟨φ1, S1, ρ, r1, en.ext e1.le, Post.bind p1 fun v S2 φ2 H2 y e2 r2 l2 p2 =>
    ⟨φ2, S2, u, v, r2, l1.ext e2.le, l2, Post.bind p2 fun t S3 φ3 H3 x3 e3 r3 l3 p3 => ?_⟩⟩⟩
  cases t with
  | bl t => cases t with
    | true => exact ⟨true, l3, ⟨φ3, S3, ρ, r3, (en.ext e1.le).ext (e2.trans e3).le, Post.bind p3 fun w S4 φ4 H4 x4 e4 r4 l4 p4 => ⟨φ4, S4, v, w, r4, l2.ext (e3.trans e4).le, l4, p4⟩⟩⟩
    | false => exact ⟨false, l3, p3.now r3 rfl⟩
  | _ => exact False.elim p3
theorem ft_chn (C : XOk X Γ sc k cl A W) {c d : Cm} {a b i : E} (hy : okX y = true) (hz : okX z = true) (ha : PE X x (dE X.K A cl W a)) (hb : PE X y (dE X.K A cl W b)) (hc : PE X z (dE X.K A cl W i)) :
    PT X (.Compare x [cmOf c, cmOf d] [y, z] pos) (dT X.K A cl W (.chn c d a b i)) := by
  have hu : X.A.units + 64 < cLine := by have := C.un; omega
  refine (pt_chain (op_cmp (A := A) (W := W) hu c) (op_cmp (A := A) (W := W) hu d) ha hb hc (mark_ok hz _)).imp fun σ H Q ⟨φ, S, ρ, r, en, p⟩ => ⟨φ, S, ρ, r, en, Post.bind p fun u S1 φ1 H1 x e1 r1 l1 p1 => ⟨φ1, S1, ρ, r1, en.ext e1.le, Post.bind p1 fun v S2 φ2 H2 y e2 r2 l2 p2 =>
    ⟨φ2, S2, u, v, r2, l1.ext e2.le, l2, Post.bind p2 fun t S3 φ3 H3 x3 e3 r3 l3 p3 => ?_⟩⟩⟩
  cases t with
  | bl t => cases t with
    | true => exact ⟨true, l3, ⟨φ3, S3, ρ, r3, (en.ext e1.le).ext (e2.trans e3).le, Post.bind p3 fun w S4 φ4 H4 x4 e4 r4 l4 p4 => ⟨φ4, S4, v, w, r4, l2.ext (e3.trans e4).le, l4, Post.blk p4⟩⟩⟩
    | false => exact ⟨false, l3, false, rfl, p3.now r3 rfl⟩
  | _ => exact False.elim p3
theorem f_neg {a : E} (ha : PE X x (dE X.K A cl W a)) : PE X (.UnaryOp .USub x pos) (dE X.K A cl W (.neg a)) :=
  (pe_un un_neg ha).imp fun σ H Q ⟨φ, S, ρ, r, en, p⟩ => ⟨φ, S, ρ, r, en, Post.bind p fun u S1 φ1 H1 x e1 r1 l1 p1 => by
    cases u with
    | int i => exact ⟨i, l1, p1.now r1 rfl⟩
    | _ => exact False.elim p1⟩
theorem f_not {a : E} (ha : PE X x (dE X.K A cl W a)) : PE X (.UnaryOp .Not x pos) (dE X.K A cl W (.not a)) :=
  (pe_notT ha).imp fun σ H Q ⟨φ, S, ρ, r, en, p⟩ => ⟨φ, S, ρ, r, en, Post.bind p fun u S1 φ1 H1 x e1 r1 l1 p1 => by
    cases q : truth S1 u with
    | none => rw [q] at p1; exact False.elim p1
    | some b => rw [q] at p1; exact ⟨b, truth_V r1 l1 q, p1.now r1 rfl⟩⟩
theorem f_and {a b : E} {xs : List Expr} (ha : PE X x (dE X.K A cl W a)) (hb : PE X (.BoolOp .And (y :: xs) pos) (dE X.K A cl W b)) : PE X (.BoolOp .And (x :: y :: xs) pos) (dE X.K A cl W (.and a b)) :=
  (pe_and ha hb).imp fun σ H Q ⟨φ, S, ρ, r, en, p⟩ => ⟨φ, S, ρ, r, en, Post.bind p fun u S1 φ1 H1 x e1 r1 l1 p1 => by
    cases u with
    | bl t => cases t with
      | true => exact ⟨true, l1, ⟨φ1, S1, ρ, r1, en.ext e1.le, p1⟩⟩
      | false => exact ⟨false, l1, p1.now r1 rfl⟩
    | _ => exact False.elim p1⟩
theorem f_or {a b : E} {xs : List Expr} (ha : PE X x (dE X.K A cl W a)) (hb : PE X (.BoolOp .Or (y :: xs) pos) (dE X.K A cl W b)) : PE X (.BoolOp .Or (x :: y :: xs) pos) (dE X.K A cl W (.or a b)) :=
  (pe_or ha hb).imp fun σ H Q ⟨φ, S, ρ, r, en, p⟩ => ⟨φ, S, ρ, r, en, Post.bind p fun u S1 φ1 H1 x e1 r1 l1 p1 => by
    cases u with
    | bl t => cases t with
      | true => exact ⟨true, l1, p1.now r1 rfl⟩
      | false => exact ⟨false, l1, ⟨φ1, S1, ρ, r1, en.ext e1.le, p1⟩⟩
    | _ => exact False.elim p1⟩
theorem fw_and {a b : Tt} {xs : List Expr} (ha : PT X x (dT X.K A cl W a)) (hb : PW X (.BoolOp .And (y :: xs) pos) (dT X.K A cl W b)) : PW X (.BoolOp .And (x :: y :: xs) pos) (dT X.K A cl W (.and a b)) :=
  (pw_and ha hb).imp fun σ H Q ⟨φ, S, ρ, r, en, p⟩ => ⟨φ, S, ρ, r, en, Post.bind p fun u S1 φ1 H1 x e1 r1 l1 p1 => by
    subst l1
    cases u with
    | true => exact ⟨φ1, S1, ρ, r1, en.ext e1.le, p1⟩
    | false => exact p1.now r1 rfl⟩
theorem fw_or {a b : Tt} {xs : List Expr} (ha : PT X x (dT X.K A cl W a)) (hb : PW X (.BoolOp .Or (y :: xs) pos) (dT X.K A cl W b)) : PW X (.BoolOp .Or (x :: y :: xs) pos) (dT X.K A cl W (.or a b)) :=
  (pw_or ha hb).imp fun σ H Q ⟨φ, S, ρ, r, en, p⟩ => ⟨φ, S, ρ, r, en, Post.bind p fun u S1 φ1 H1 x e1 r1 l1 p1 => by
    subst l1
    cases u with
    | true => exact p1.now r1 rfl
    | false => exact ⟨φ1, S1, ρ, r1, en.ext e1.le, p1⟩⟩
theorem ft_not {a : Tt} (ha : PT X x (dT X.K A cl W a)) : PT X (.UnaryOp .Not x pos) (dT X.K A cl W (.not a)) :=
  (pt_not ha).imp fun σ H Q ⟨φ, S, ρ, r, en, p⟩ => ⟨φ, S, ρ, r, en, Post.bind p fun u S1 φ1 H1 x e1 r1 l1 p1 => by
    subst l1
    exact p1.now r1 rfl⟩
theorem ft_val {a : E} (ha : PE X x (dE X.K A cl W a)) (he : ∀ whole, isTrue x X.env whole = (do let v ← whole; standAt x.pos; holding [v] (truthy v))) : PT X x (dT X.K A cl W (.val a)) :=
  (pt_truth ha he).imp fun σ H Q ⟨φ, S, ρ, r, en, p⟩ => ⟨φ, S, ρ, r, en, Post.bind p fun u S1 φ1 H1 x e1 r1 l1 p1 => by
    cases q : truth S1 u with
    | none => rw [q] at p1; exact False.elim p1
    | some b => rw [q] at p1; exact ⟨b, truth_V r1 l1 q, p1.now r1 rfl⟩⟩
theorem f_ite {c : Tt} {a b : E} (hc : PT X x (dT X.K A cl W c)) (ha : PE X y (dE X.K A cl W a)) (hb : PE X z (dE X.K A cl W b)) : PE X (.IfExp x y z pos) (dE X.K A cl W (.ite c a b)) :=
  (pe_ifExp hc ha hb).imp fun σ H Q ⟨φ, S, ρ, r, en, p⟩ => ⟨φ, S, ρ, r, en, Post.bind p fun u S1 φ1 H1 x e1 r1 l1 p1 => by
    subst l1
    cases u with
    | true => exact ⟨φ1, S1, ρ, r1, en.ext e1.le, p1⟩
    | false => exact ⟨φ1, S1, ρ, r1, en.ext e1.le, p1⟩⟩
theorem fa_nil : PA X [] (dA X.K A cl W .nil) := pa_nil.imp fun σ H Q ⟨φ, S, ρ, r, en, p⟩ => p.now (x := []) r .nil
theorem fa_cons {a : E} {r : Es} {xs : List Expr} (hk : okX x = true) (ha : PE X x (dE X.K A cl W a)) (hr : PA X xs (dA X.K A cl W r)) : PA X (x :: xs) (dA X.K A cl W (.cons a r)) :=
  (PA.all hk ha hr).imp fun σ H Q ⟨φ, S, ρ, r, en, p⟩ => ⟨φ, S, ρ, r, en, Post.bind p fun u S1 φ1 H1 x e1 r1 l1 p1 => ⟨φ1, S1, ρ, r1, en.ext e1.le, Post.bind p1 fun v S2 φ2 H2 y e2 r2 l2 p2 =>
    p2.now (x := x :: y) r2 (.cons (l1.ext e2.le) l2)⟩⟩
theorem fk_nil : PK X [] (dA X.K A cl W .nil) := pk_nil.imp fun σ H Q ⟨φ, S, ρ, r, en, p⟩ => p.now (x := []) r .nil
theorem fk_cons {a : E} {r : Es} {nm : Option Str} {kp : Pos} {xs : List Keyword} (ha : PE X x (dE X.K A cl W a)) (hr : PK X xs (dA X.K A cl W r)) : PK X (⟨nm, x, kp⟩ :: xs) (dA X.K A cl W (.cons a r)) :=
  (pk_cons ha hr).imp fun σ H Q ⟨φ, S, ρ, r, en, p⟩ => ⟨φ, S, ρ, r, en, Post.bind p fun u S1 φ1 H1 x e1 r1 l1 p1 => ⟨φ1, S1, ρ, r1, en.ext e1.le, Post.bind p1 fun v S2 φ2 H2 y e2 r2 l2 p2 =>
    p2.now (x := x :: y) r2 (.cons (l1.ext e2.le) l2)⟩⟩
theorem f_lst {es : Es} {xs : List Expr} (ha : PA X xs (dA X.K A cl W es)) : PE X (.List xs pos) (dE X.K A cl W (.lst es)) :=
  (pe_lst ha).imp fun σ H Q ⟨φ, S, ρ, r, en, p⟩ => ⟨φ, S, ρ, r, en, Post.bind p fun u S1 φ1 H1 x e1 r1 l1 p1 => newL_ok r1 l1 p1⟩
theorem f_tup {es : Es} {xs : List Expr} {n : Nat} (ha : PA X xs (dA X.K A cl W es)) : PE X (.Tuple xs n pos) (dE X.K A cl W (.tup es)) :=
  (pe_tup ha).imp fun σ H Q ⟨φ, S, ρ, r, en, p⟩ => ⟨φ, S, ρ, r, en, Post.bind p fun u S1 φ1 H1 x e1 r1 l1 p1 => newT_ok r1 l1 p1⟩
theorem f_sub {a b : E} (hk : okX y = true) (ha : PE X x (dE X.K A cl W a)) (hb : PE X y (dE X.K A cl W b)) : PE X (.Subscript x y pos) (dE X.K A cl W (.sub a b)) :=
  (pe_ix (ix_sub (A := A) (W := W)) ha hb (plain_ix hk)).imp fun σ H Q ⟨φ, S, ρ, r, en, p⟩ => ⟨φ, S, ρ, r, en, Post.bind p fun u S1 φ1 H1 x e1 r1 l1 p1 => ⟨φ1, S1, ρ, r1, en.ext e1.le, Post.bind p1 fun v S2 φ2 H2 y e2 r2 l2 p2 =>
    ⟨φ2, S2, u, v, r2, l1.ext e2.le, l2, p2⟩⟩⟩
/-- one end of a slice -/
def dO (K : PySem.W.Frag) (A : Nat → Addr) (cl : Nat → List Vl → Sto → R Vl) (W : XK) (i : E) : TO := fun σ H Q => ∃ φ S ρ, Rep K A φ S H ∧ EnvR A φ ρ σ ∧ Post K A (fun _ a b => a = b) φ H (partR (isBad i) S (ev cl i ρ S)) Q W
theorem _root_.L2.PO.imp {e : Option Expr} {t t' : TO} (h : PO X e t) (f : ∀ σ H Q, t' σ H Q → t σ H Q) : PO X e t' := by
  obtain ⟨h⟩ := h
  constructor
  intros
  first
    | exact h _ _ _ _ _ (by assumption) (f _ _ _ (by assumption))
    | exact h _ _ _ _ _ _ (by assumption) (f _ _ _ (by assumption))
theorem fo_none {i : E} (hi : isBad i = true) : PO X none (dO X.K A cl W i) := po_none.imp fun σ H Q ⟨φ, S, ρ, r, en, p⟩ => by
  rw [hi] at p
  exact p.now r rfl
theorem fo_some {i : E} (hi : isBad i = false) (h : PE X x (dE X.K A cl W i)) : PO X (some x) (dO X.K A cl W i) := (po_some h).imp fun σ H Q ⟨φ, S, ρ, r, en, p⟩ => ⟨φ, S, ρ, r, en, by
  rw [hi] at p
  refine Post.bind p fun u S1 φ1 H1 x e1 r1 l1 p1 => ?_
  cases u with
  | int i => exact ⟨i, l1, p1.now r1 rfl⟩
  | _ => exact False.elim p1⟩
theorem f_cut {a lo hi : E} {xl xh : Option Expr} {p2 : Pos} (ha : PE X x (dE X.K A cl W a)) (hl : PO X xl (dO X.K A cl W lo)) (hh : PO X xh (dO X.K A cl W hi)) : PE X (.Subscript x (.Slice xl xh none p2) pos) (dE X.K A cl W (.cut a lo hi)) :=
  (pe_slice (sl_cut (A := A) (W := W)) ha hl hh).imp fun σ H Q ⟨φ, S, ρ, r, en, p⟩ => ⟨φ, S, ρ, r, en, Post.bind p fun u S1 φ1 H1 x e1 r1 l1 p1 => ⟨φ1, S1, ρ, r1, en.ext e1.le, Post.bind p1 fun v S2 φ2 H2 y e2 r2 l2 p2 =>
    ⟨φ2, S2, ρ, r2, (en.ext e1.le).ext e2.le, Post.bind p2 fun w S3 φ3 H3 z e3 r3 l3 p3 => by
      subst l2 l3
      exact ⟨φ3, S3, u, r3, l1.ext (e2.trans e3).le, p3⟩⟩⟩⟩
theorem gl_of (C : XOk X Γ sc k cl A W) {n : Str} (hg : sc.names.lookup n = some .globalImplicit) : Gl X n := by
  show X.env.scope.names.lookup n = _
  rw [C.sc]
  exact hg
theorem f_bi (C : XOk X Γ sc k cl A W) {b : Bi} {es : Es} {xs : List Expr} {p : Pos} (hg : sc.names.lookup (biNm b) = some .globalImplicit) (hk : (x :: xs).all okX = true) (ha : PA X (x :: xs) (dA X.K A cl W es)) :
    PE X (.Call (.Name (biNm b) p) (x :: xs) [] pos) (dE X.K A cl W (.bi b es)) := by
  rw [List.all_cons, Bool.and_eq_true] at hk
  refine (pe_bi (cl_bi (A := A) (W := W) C.calm C.gd (by have := C.un; omega) b) (gl_of C hg) (C.md.bi _ (by cases b <;> decide +kernel)) ha (star_ok hk.1 _ _) (back_ok hk.2)).imp fun σ H Q ⟨φ, S, ρ, r, en, p⟩ => ⟨φ, S, ρ, r, en, Post.bind p fun u S1 φ1 H1 x e1 r1 l1 p1 =>
    ⟨φ1, S1, u, r1, l1, p1⟩⟩
theorem Post.bindE {K : PySem.W.Frag} {φ : Loc} {H : Hp} {α β γ δ : Type} {Rl : Loc → α → β → Prop} {Rm : Loc → γ → δ → Prop} {r : R α} {f : α → Sto → R γ} {Q : δ → Hp → Prop} {Q1 : β → Hp → Prop} (h : Post K A Rm φ H (r.bind f) Q W)
    (k : ∀ v S1 φ1 H1 x, r = .ok v S1 → Ext φ H φ1 H1 → Rep K A φ1 S1 H1 → Rl φ1 v x → Post K A Rm φ1 H1 (f v S1) Q W → Q1 x H1) : Post K A Rl φ H r Q1 W := by
  cases r with
  | ok v S' => exact fun φ' H' x e r l => k v S' φ' H' x rfl e r l ((show Post K A Rm φ H (f v S') Q W from h).from e)
  | exc k v S' => exact h
  | bad => exact h
def Es.len : Es → Nat
  | .nil => 0
  | .cons _ r => r.len + 1
theorem evs_len : ∀ {es : Es} {ρ : MP.Env} {S S1 : Sto} {u : List Vl}, evs cl es ρ S = .ok u S1 → u.length = es.len
  | .nil, ρ, S, S1, u, h => by cases h; rfl
  | .cons e r, ρ, S, S1, u, h => by
    have h : (ev cl e ρ S).bind (fun v S1 => (evs cl r ρ S1).bind fun vs S2 => .ok (v :: vs) S2) = .ok u S1 := h
    cases q : ev cl e ρ S with
    | ok v S2 =>
      rw [q] at h
      have h : (evs cl r ρ S2).bind (fun vs S2 => R.ok (v :: vs) S2) = .ok u S1 := h
      cases q2 : evs cl r ρ S2 with
      | ok vs S3 =>
        rw [q2] at h
        cases h
        rw [List.length_cons, evs_len q2]
        rfl
      | exc k v S => rw [q2] at h; cases h
      | bad => rw [q2] at h; cases h
    | exc k v S => rw [q] at h; cases h
    | bad => rw [q] at h; cases h
theorem call_run (C : XOk X Γ sc k cl A W) {f n : Nat} {nm : Str} {ps : List Str} {dv : List Vl} (hf : Γ.F[f]? = some (nm, ps)) (hc : (f, n, dv) ∈ Γ.calls) {pins : List (Addr × Obj)} {σ : L2.St} {H1 : Hp} {s1 : Shared} {us : List Value} {vs : List V}
    {φ1 : Loc} {S1 : Sto} {u : List Vl} {Q : VK} (hl : u.length = n) (I1 : L2.Inv X pins σ H1 s1) (r1 : Vals vs us) (rp : Rep X.K A φ1 S1 H1) (ru : VRs A φ1 u vs) (p1 : Post X.K A (VR A) φ1 H1 (cl f (u ++ dv) S1) Q W) :
      wpAny (model X.prog X.w) X.A (call (.ref (A f)) us) (EP X pins σ Q) X.xe s1 := by
  obtain ⟨glo, kp, fd, F, bd, _⟩ := C.md.fn f nm ps hf
  obtain ⟨ds, dvs, rd, rdv, hn, _, B⟩ := bd n dv hc
  have hl2 : vs.length = n := by rw [← Paired.len ru]; exact hl
  have hl3 : us.length = n := by rw [← r1.length]; exact hl2
  have hl4 : ds.length = dv.length := by rw [← rd.length]; exact (Paired.len (rdv φ1)).symm
  have hlen : (us ++ ds).length = ps.length := by rw [List.length_append, hl3, hl4]; exact hn
  exact run_G (E := W) (args := ⟨us, []⟩) F C.rm C.gd (fun e s' q => passes_call C.tk (fun _ _ _ _ q => q) pins σ H1 s1 e s' I1 q) I1 (B s1 us I1.kIn hlen) (r1.append rd)
    ⟨by rw [List.length_append, hl2, rd.length, hl4]; exact hn, φ1, S1, u ++ dv, rp, Paired.app ru (rdv φ1), p1⟩
theorem f_call (C : XOk X Γ sc k cl A W) {f : Nat} {nm : Str} {ps : List Str} {es : Es} {dv : List Vl} {xs : List Expr} {p : Pos} (hf : Γ.F[f]? = some (nm, ps)) (hg : sc.names.lookup nm = some .globalImplicit) (hc : (f, es.len, dv) ∈ Γ.calls)
    (hk : (x :: xs).all okX = true) (ha : PA X (x :: xs) (dA X.K A cl W es)) : PE X (.Call (.Name nm p) (x :: xs) [] pos) (dE X.K A cl W (.call f es dv)) := by
  have M := C.md.fn f nm ps hf
  have hdb := (C.md.dbg nm (.inr (.inr (List.mem_map.mpr ⟨_, List.mem_of_getElem? hf, rfl⟩)))).1
  rw [List.all_cons, Bool.and_eq_true] at hk
  refine ⟨fun pins s σ H Q I ⟨φ, S, ρ, r, en, p⟩ => ?_⟩
  refine wpAny_Call_Name_kw (ld_glob I (gl_of C hg) M.glo ?_ hdb)
  refine PySem.W.callWith_K (h₀ := X.base) I.ok.mod.kin M.kp (thn (ha.run pos pins s σ H (fun vs H1 => ∃ φ1 S1 u, u.length = es.len ∧ Rep X.K A φ1 S1 H1 ∧ VRs A φ1 u vs ∧ Post X.K A (VR A) φ1 H1 (cl f (u ++ dv) S1) Q W) I
    ⟨φ, S, ρ, r, en, Post.bindE p fun u S1 φ1 H1 x q e1 r1 l1 p1 => ⟨φ1, S1, u, evs_len q, r1, l1, p1⟩⟩) fun us s1 ⟨vs, H1, I1, r, φ1, S1, u, hl, rp, ru, p1⟩ => ⟨I1.kIn, call_run C hf hc hl I1 r rp ru p1⟩) (star_ok hk.1 _ _) (back_ok hk.2)
theorem f_call0 (C : XOk X Γ sc k cl A W) {f : Nat} {nm : Str} {ps : List Str} {dv : List Vl} {p : Pos} (hf : Γ.F[f]? = some (nm, ps)) (hg : sc.names.lookup nm = some .globalImplicit) (hc : (f, 0, dv) ∈ Γ.calls) :
    PE X (.Call (.Name nm p) [] [] pos) (dE X.K A cl W (.call f .nil dv)) := by
  have M := C.md.fn f nm ps hf
  have hdb := (C.md.dbg nm (.inr (.inr (List.mem_map.mpr ⟨_, List.mem_of_getElem? hf, rfl⟩)))).1
  refine ⟨fun pins s σ H Q I ⟨φ, S, ρ, r, en, p⟩ => ?_⟩
  refine wpAny_Call_Name_kw (ld_glob I (gl_of C hg) M.glo ?_ hdb)
  exact PySem.W.callWith_K0 I.kIn M.kp (call_run (us := []) (vs := []) (u := []) C hf hc rfl I .nil r .nil p)
theorem pick_rel {α β : Type} {F : α → β → Prop} {l₁ : List α} {l₂ : List β} (h : Paired F l₁ l₂) : ∀ pm : List Nat, Paired F (pick l₁ pm) (pick l₂ pm)
  | [] => .nil
  | i :: pm => by
    unfold pick
    rw [List.filterMap_cons, List.filterMap_cons]
    cases q : l₁[i]? with
    | none => rw [Paired.at0 h q]; exact pick_rel h pm
    | some a =>
      obtain ⟨b, h1, h2⟩ := Paired.at1 h q
      rw [h1]
      exact .cons h2 (pick_rel h pm)
theorem mapAt_pick {vs : List Vl} : ∀ {pm : List Nat} {us : List Vl}, mapAt vs pm = some us → us = pick vs pm ∧ us.length = pm.length
  | [], us, h => by cases h; exact ⟨rfl, rfl⟩
  | i :: pm, us, h => by
    unfold mapAt at h
    cases q : vs[i]? with
    | none => rw [q] at h; cases h
    | some v =>
      cases q2 : mapAt vs pm with
      | none => rw [q, q2] at h; cases h
      | some r =>
        rw [q, q2] at h
        cases h
        obtain ⟨h1, h2⟩ := mapAt_pick q2
        unfold pick
        rw [List.filterMap_cons, q]
        exact ⟨by rw [h1]; rfl, by rw [List.length_cons, h2, List.length_cons]⟩
def kwNames : List Keyword → List Str
  | [] => []
  | ⟨some n, _, _⟩ :: r => n :: kwNames r
  | ⟨none, _, _⟩ :: r => kwNames r
def kwAll : List Keyword → Bool
  | [] => true
  | ⟨some _, _, _⟩ :: r => kwAll r
  | ⟨none, _, _⟩ :: _ => false
theorem kw_ok {pos : Pos} {env : PySem.Env} : ∀ {kws : List Keyword}, kwAll kws = true → (backToKw pos (keywordEach kws env)).all (·.1.isSome) = true ∧ (backToKw pos (keywordEach kws env)).filterMap (·.1) = kwNames kws ∧ (backToKw pos (keywordEach kws env)).any (·.1.isNone) = false
  | [], _ => ⟨rfl, rfl, rfl⟩
  | ⟨some n, v, p⟩ :: r, h => by
    obtain ⟨h1, h2, h3⟩ := kw_ok (pos := pos) (env := env) (kws := r) h
    refine ⟨?_, ?_, ?_⟩
    · show (true && (backToKw pos (keywordEach r env)).all (·.1.isSome)) = true
      rw [h1]; rfl
    · show n :: (backToKw pos (keywordEach r env)).filterMap (·.1) = n :: kwNames r
      rw [h2]
    · show (false || (backToKw pos (keywordEach r env)).any (·.1.isNone)) = false
      rw [h3]; rfl
  | ⟨none, _, _⟩ :: _, h => by cases h
theorem callK_run (C : XOk X Γ sc k cl A W) {f n : Nat} {nm : Str} {ps ks : List Str} {pm : List Nat} (hf : Γ.F[f]? = some (nm, ps)) (hc : (f, n, ks, pm) ∈ Γ.kcalls) {pins : List (Addr × Obj)} {σ : L2.St} {H1 : Hp} {s1 : Shared} {us ws : List Value} {vs zs : List V}
    {φ1 : Loc} {S1 : Sto} {u t o : List Vl} {Q : VK} (hl : u.length = n) (hl2 : t.length = ks.length) (hm : mapAt (u ++ t) pm = some o) (I1 : L2.Inv X pins σ H1 s1) (r1 : Vals vs us) (r2 : Vals zs ws) (rp : Rep X.K A φ1 S1 H1) (ru : VRs A φ1 u vs) (rt : VRs A φ1 t zs) (p1 : Post X.K A (VR A) φ1 H1 (cl f o S1) Q W) :
      wpAny (model X.prog X.w) X.A (call (.ref (A f)) us (ks.zip ws)) (EP X pins σ Q) X.xe s1 := by
  obtain ⟨glo, kp, fd, F, _, bk⟩ := C.md.fn f nm ps hf
  obtain ⟨h1, h2, h3⟩ := bk n ks pm hc
  have hu : us.length = n := by rw [← r1.length, ← Paired.len ru]; exact hl
  have hw : ws.length = ks.length := by rw [← r2.length, ← Paired.len rt]; exact hl2
  obtain ⟨m1, m2⟩ := mapAt_pick hm
  have e1 : VRs A φ1 o (pick (vs ++ zs) pm) := by rw [m1]; exact pick_rel (Paired.app ru rt) pm
  have e2 : Vals (pick (vs ++ zs) pm) (pick (us ++ ws) pm) := pick_rel (r1.append r2) pm
  exact run_G (E := W) (args := ⟨us, ks.zip ws⟩) F C.rm C.gd (fun e s' q => passes_call C.tk (fun _ _ _ _ q => q) pins σ H1 s1 e s' I1 q) I1 (h3 s1 us ws I1.kIn hu hw) e2
    ⟨by rw [← Paired.len e1, m2, h1], φ1, S1, o, rp, e1, p1⟩
theorem f_callK (C : XOk X Γ sc k cl A W) {f : Nat} {nm : Str} {ps : List Str} {es ks : Es} {pm : List Nat} {xs : List Expr} {kws : List Keyword} {p : Pos} (hf : Γ.F[f]? = some (nm, ps)) (hg : sc.names.lookup nm = some .globalImplicit) (hc : (f, es.len, kwNames kws, pm) ∈ Γ.kcalls)
    (hkl : ks.len = (kwNames kws).length) (hka : kwAll kws = true)
    (hk : (x :: xs).all okX = true) (ha : PA X (x :: xs) (dA X.K A cl W es)) (hkw : PK X kws (dA X.K A cl W ks)) : PE X (.Call (.Name nm p) (x :: xs) kws pos) (dE X.K A cl W (.callK f es ks pm)) := by
  have M := C.md.fn f nm ps hf
  have hdb := (C.md.dbg nm (.inr (.inr (List.mem_map.mpr ⟨_, List.mem_of_getElem? hf, rfl⟩)))).1
  have hk' := hk
  rw [List.all_cons, Bool.and_eq_true] at hk
  obtain ⟨h1, h2, h3⟩ := kw_ok (pos := pos) (env := X.env) hka
  refine ⟨fun pins s σ H Q I ⟨φ, S, ρ, r, en, p⟩ => ?_⟩
  refine wpAny_Call_Name_kw (ld_glob I (gl_of C hg) M.glo ?_ hdb)
  refine PySem.W.callWith_KW (h₀ := X.base) I.ok.mod.kin M.kp h1 (thn (ha.run pos pins s σ H (fun vs H1 => ∃ φ1 S1 u, u.length = es.len ∧ Rep X.K A φ1 S1 H1 ∧ EnvR A φ1 ρ σ ∧ VRs A φ1 u vs ∧ Post X.K A (VR A) φ1 H1 ((evs cl ks ρ S1).bind fun ws S2 => match mapAt (u ++ ws) pm with | some us => cl f us S2 | none => .bad) Q W) I
    ⟨φ, S, ρ, r, en, Post.bindE p fun u S1 φ1 H1 x q e1 r1 l1 p1 => ⟨φ1, S1, u, evs_len q, r1, en.ext e1.le, l1, p1⟩⟩) fun us s1 ⟨vs, H1, I1, r, φ1, S1, u, hl, rp, en1, ru, p1⟩ => ?_) (by rw [back_ok hk', h3]; rfl) (star_ok hk.1 _ _)
  refine thn (hkw.run pos pins s1 σ H1 (fun zs H2 => ∃ φ2 S2 t, t.length = ks.len ∧ Rep X.K A φ2 S2 H2 ∧ VRs A φ2 u vs ∧ VRs A φ2 t zs ∧ Post X.K A (VR A) φ2 H2 (match mapAt (u ++ t) pm with | some us => cl f us S2 | none => .bad) Q W) I1
    ⟨φ1, S1, ρ, rp, en1, Post.bindE p1 fun t S2 φ2 H2 x q e2 r2 l2 p2 => ⟨φ2, S2, t, evs_len q, r2, VRs.ext e2.le ru, l2, p2⟩⟩) fun ws s2 ⟨zs, H2, I2, rz, φ2, S2, t, hl2, rp2, ru2, rt2, p2⟩ => ⟨I2.kIn, ?_⟩
  rw [h2]
  cases q : mapAt (u ++ t) pm with
  | none => rw [q] at p2; exact False.elim p2
  | some o =>
    rw [q] at p2
    exact callK_run C hf hc hl (by rw [hl2, hkl]) q I2 r rz rp2 ru2 rt2 p2
theorem f_callK0 (C : XOk X Γ sc k cl A W) {f : Nat} {nm : Str} {ps : List Str} {ks : Es} {pm : List Nat} {kws : List Keyword} {p : Pos} (hf : Γ.F[f]? = some (nm, ps)) (hg : sc.names.lookup nm = some .globalImplicit) (hc : (f, 0, kwNames kws, pm) ∈ Γ.kcalls)
    (hkl : ks.len = (kwNames kws).length) (hka : kwAll kws = true) (hkw : PK X kws (dA X.K A cl W ks)) : PE X (.Call (.Name nm p) [] kws pos) (dE X.K A cl W (.callK f .nil ks pm)) := by
  have M := C.md.fn f nm ps hf
  have hdb := (C.md.dbg nm (.inr (.inr (List.mem_map.mpr ⟨_, List.mem_of_getElem? hf, rfl⟩)))).1
  obtain ⟨h1, h2, h3⟩ := kw_ok (pos := pos) (env := X.env) hka
  refine ⟨fun pins s σ H Q I ⟨φ, S, ρ, r, en, p⟩ => ?_⟩
  have p : Post X.K A (VR A) φ H ((evs cl ks ρ S).bind fun ws S2 => match mapAt ([] ++ ws) pm with | some us => cl f us S2 | none => .bad) Q W := p
  refine wpAny_Call_Name_kw (ld_glob I (gl_of C hg) M.glo ?_ hdb)
  refine PySem.W.callWith_KW0 (h₀ := X.base) I.ok.mod.kin M.kp h1 ?_ (by rw [h3]; rfl)
  refine thn (hkw.run pos pins s σ H (fun zs H2 => ∃ φ2 S2 t, t.length = ks.len ∧ Rep X.K A φ2 S2 H2 ∧ VRs A φ2 t zs ∧ Post X.K A (VR A) φ2 H2 (match mapAt ([] ++ t) pm with | some us => cl f us S2 | none => .bad) Q W) I
    ⟨φ, S, ρ, r, en, Post.bindE p fun t S2 φ2 H2 x q e2 r2 l2 p2 => ⟨φ2, S2, t, evs_len q, r2, l2, p2⟩⟩) fun ws s2 ⟨zs, H2, I2, rz, φ2, S2, t, hl2, rp2, rt2, p2⟩ => ⟨I2.kIn, ?_⟩
  rw [h2]
  cases q : mapAt ([] ++ t) pm with
  | none => rw [q] at p2; exact False.elim p2
  | some o =>
    rw [q] at p2
    exact callK_run (us := []) (vs := []) C hf hc rfl (by rw [hl2, hkl]) q I2 .nil rz rp2 .nil rt2 p2
end
end MP
namespace MP
open PySem PySem.Spec PyProof.Rows L2
section
variable {K : PySem.W.Frag} {A : Nat → Addr} {φ φ1 : Loc} {H H1 : Hp} {S : Sto}
theorem Rep.free (r : Rep K A φ S H) {p : Addr} (n : ∀ i, φ i ≠ some p) (u : HO) : Rep K A φ S (upd H p u) where
  dom := r.dom
  obj := fun i o g => by
    obtain ⟨a, h1, h2⟩ := r.obj i o g
    refine ⟨a, h1, h2.ext (fun _ _ z => z) fun v hv => ?_⟩
    have : a ≠ p := fun e => n i (by rw [← e]; exact h1)
    rw [upd_ne this]; exact hv
  inj := r.inj
theorem Ext.free (e : Ext φ H φ1 H1) {p : Addr} (hp : H p = none) (u : HO) : Ext φ H φ1 (upd H1 p u) where
  le := e.le
  new := e.new
  keep := fun a v h n => by
    have : a ≠ p := fun z => by rw [z, hp] at h; cases h
    rw [upd_ne this]; exact e.keep a v h n
  old := fun a h => by
    by_cases z : a = p
    · rw [z]; exact hp
    · rw [upd_ne z] at h; exact e.old a h
end
def btNm : BT → String
  | .none => "NoneType" | .bool => "bool" | .int => "int" | .str => "str" | .list => "list" | .tuple => "tuple" | .dict => "dict"
def btS : BT → Str
  | .none => "NoneType" | .bool => "bool" | .int => "int" | .str => "str" | .list => "list" | .tuple => "tuple" | .dict => "dict"
theorem kitB_bt (t u : BT) : kitB (btNm t) (btNm u) = some (subBT t u) := by
  cases t <;> cases u <;> decide +kernel
theorem bt_boot (t : BT) (h : t ≠ .none) : bootBuiltins (btS t) = some (.type (btNm t)) ∧ btS t ≠ "__name__" ∧ (btS t == ("__debug__" : Str)) = false ∧ btS t ∈ biNames := by
  cases t
  · exact absurd rfl h
  all_goals decide +kernel
theorem kitAny_bt {K : PySem.W.Frag} (t : BT) : ∀ ts : List BT, PySem.W.kitAny K (.type (btNm t)) (ts.map fun u => Value.type (btNm u)) = some (anyBT t ts)
  | [] => kitAny_nil
  | u :: us => by
    refine kitAny_cons (kit_ty (kitB_bt t u)) (fun e => ?_) (fun e => ?_)
    · unfold anyBT
      rw [e, kitAny_bt t us]
      rfl
    · unfold anyBT
      rw [e]
      rfl
theorem bt_TyX {K : PySem.W.Frag} {A : Nat → Addr} {φ : Loc} {S : Sto} {H : Hp} {u : Vl} {x : V} {t : BT} (r : Rep K A φ S H) (l : VR A φ u x) (h : bt S u = some t) : TyX K H x (.type (btNm t)) := by
  cases u with
  | non => cases l; cases h; exact .base .non
  | bl b => cases l; cases h; exact .base (.bl b)
  | int b => cases l; cases h; exact .base (.int b)
  | str b => cases l; cases h; exact .base (.str b)
  | glo k => cases h
  | ref n =>
    simp only [bt] at h
    cases q : S.get n with
    | none => rw [q] at h; cases h
    | some o =>
      rw [q] at h
      obtain ⟨p, e, f, ob⟩ := VR.ref_of r l q
      subst e
      cases o with
      | lst xs => obtain ⟨ys, h1, h2⟩ := ob; cases h; exact .base (.lst h2)
      | rol xs => cases h
      | tup xs => obtain ⟨ys, h1, h2⟩ := ob; cases h; exact .base (.tup h2)
      | dK xs => obtain ⟨ys, h1, h2⟩ := ob; cases h; exact .base (.dK h2)
section
variable {X : Cx} {Γ : Gam} {sc : Scope} {k : Nat} {cl : Nat → List Vl → Sto → R Vl} {A : Nat → Addr} {W : XK} {x y z e : Expr} {pos : Pos}
theorem pe_bty (C : XOk X Γ sc k cl A W) {t : BT} (h : t ≠ .none) (hg : sc.names.lookup (btS t) = some .globalImplicit) : PE X (.Name (btS t) pos) (tC (.ty (btNm t))) :=
  ⟨fun pins s σ H Q I q => by
    obtain ⟨h1, h2, h3, h4⟩ := bt_boot t h
    exact ld_blt I (gl_of C hg) (C.md.bi _ h4) h1 ⟨.ty (btNm t), H, I, rfl, q⟩ h2 h3⟩
theorem isi_boot : bootBuiltins "isinstance" = some (.builtin "isinstance") := by decide +kernel
theorem f_isi1 (C : XOk X Γ sc k cl A W) {a : E} {t : BT} {p p2 : Pos} (ht : t ≠ .none) (hi : sc.names.lookup ("isinstance" : Str) = some .globalImplicit) (hg : sc.names.lookup (btS t) = some .globalImplicit) (hk : okX x = true) (ha : PE X x (dE X.K A cl W a)) :
    PE X (.Call (.Name "isinstance" p) [x, .Name (btS t) p2] [] pos) (dE X.K A cl W (.isi a [t] true)) := by
  refine (pe_callB (call_isi (X := X)) (gl_of C hi) (C.md.bi _ (by decide +kernel)) isi_boot (PA.all hk ha (PA.all rfl (pe_bty C ht hg) pa_nil)) (by decide +kernel) (by decide +kernel) (star_ok hk _ _) rfl).imp fun σ H Q ⟨φ, S, ρ, r, en, p⟩ => ⟨φ, S, ρ, r, en, Post.bind p fun u S1 φ1 H1 v e1 r1 l1 p1 => ?_⟩
  cases q : bt S1 u with
  | none => rw [q] at p1; exact False.elim p1
  | some t' =>
    rw [q] at p1
    refine ⟨v, .ty (btNm t), .type (btNm t'), .type (btNm t), subBT t' t, rfl, .ty _, bt_TyX r1 l1 q, kit_ty (kitB_bt t' t), ?_⟩
    have e : anyBT t' [t] = subBT t' t := by unfold anyBT anyBT; rw [Bool.or_false]
    rw [← e]
    exact p1.now r1 rfl
inductive TyNames (sc : Scope) : List BT → List Expr → Prop
  | nil : TyNames sc [] []
  | cons {t : BT} {ts : List BT} {p : Pos} {xs : List Expr} : t ≠ .none → sc.names.lookup (btS t) = some .globalImplicit → TyNames sc ts xs → TyNames sc (t :: ts) (.Name (btS t) p :: xs)
def tTys : List BT → TA
  | [] => tNil
  | t :: ts => tCons (tC (.ty (btNm t))) (tTys ts)
theorem pa_tys (C : XOk X Γ sc k cl A W) : ∀ {ts : List BT} {xs : List Expr}, TyNames sc ts xs → PA X xs (tTys ts)
  | _, _, .nil => pa_nil
  | _, _, .cons h hg r => PA.all rfl (pe_bty C h hg) (pa_tys C r)
theorem tTys_of {Q : List V → Hp → Prop} {σ : L2.St} {H : Hp} : ∀ (ts : List BT), Q (ts.map fun t => V.ty (btNm t)) H → tTys ts σ H Q
  | [], h => h
  | t :: ts, h => tTys_of (Q := fun xs H' => Q (V.ty (btNm t) :: xs) H') ts h
theorem cls_tys : ∀ ts : List BT, Paired ClsV (ts.map fun t => V.ty (btNm t)) (ts.map fun t => Value.type (btNm t))
  | [] => .nil
  | t :: ts => .cons (.ty _) (cls_tys ts)
theorem f_isiT (C : XOk X Γ sc k cl A W) {a : E} {ts : List BT} {xs : List Expr} {n : Nat} {p p2 : Pos} (ht : TyNames sc ts xs) (hn : Nat.ble ts.length lineN = true) (hi : sc.names.lookup ("isinstance" : Str) = some .globalImplicit) (hk : okX x = true) (ha : PE X x (dE X.K A cl W a)) :
    PE X (.Call (.Name "isinstance" p) [x, .Tuple xs n p2] [] pos) (dE X.K A cl W (.isi a ts false)) := by
  refine (pe_callB (call_isiT (X := X)) (gl_of C hi) (C.md.bi _ (by decide +kernel)) isi_boot (PA.all hk ha (PA.all rfl (pe_tup (pa_tys C ht)) pa_nil)) (by decide +kernel) (by decide +kernel) (star_ok hk _ _) rfl).imp fun σ H Q ⟨φ, S, ρ, r, en, p⟩ => ⟨φ, S, ρ, r, en, Post.bind p fun u S1 φ1 H1 v e1 r1 l1 p1 => ?_⟩
  cases q : bt S1 u with
  | none => rw [q] at p1; exact False.elim p1
  | some t' =>
    rw [q] at p1
    refine tTys_of ts ⟨by rw [List.length_map]; exact Nat.le_of_ble_eq_true hn, fun tp htp => ?_⟩
    have fr : ∀ (u : HO), Ext φ1 H1 φ1 (upd H1 tp u) := fun u => Ext.refl.free htp u
    have rp : ∀ (u : HO), Rep X.K A φ1 S1 (upd H1 tp u) := fun u => r1.free (r1.not_in htp) u
    refine ⟨v, tp, _, .type (btNm t'), _, anyBT t' ts, rfl, upd_same, cls_tys ts, bt_TyX (rp _) l1 q, kitAny_bt t' ts, ?_⟩
    exact p1 φ1 _ (.bl (anyBT t' ts)) (fr _) (rp _) rfl
def noCall0 : Expr → Bool
  | .Call _ [] _ _ => false
  | _ => true
theorem base_ok {o : Expr} (h : noCall0 o = true) (n : Str) (env : PySem.Env) : attributeBase o n env (eval o env) = eval o env := by
  unfold attributeBase
  cases o <;> first | rfl | skip
  rename_i f args kws p
  cases f <;> first | rfl | skip
  cases args with
  | nil => cases h
  | cons a as => rfl
theorem few_ok {pos : Pos} {env : PySem.Env} {xs : List Expr} (hk : xs.all okX = true) (hl : xs.length < 30) : ((backTo pos (starEach xs env)).all (fun x => !x.1) && (backToKw pos (keywordEach [] env)).all (fun x => x.1.isSome)
      && decide (xs.length + ([] : List Keyword).length + (if ([] : List Keyword).isEmpty then 0 else 1) < 30)) = true := by
  have h1 : (backTo pos (starEach xs env)).all (fun x => !x.1) = true := by
    have h := back_ok (pos := pos) (env := env) hk
    rw [List.any_eq_false] at h
    rw [List.all_eq_true]
    intro y hy
    have := h y hy
    simpa using this
  rw [h1]
  have e2 : (backToKw pos (keywordEach [] env)).all (fun x => x.1.isSome) = true := rfl
  rw [e2]
  simp only [Bool.true_and, decide_eq_true_eq]
  show xs.length + 0 + 0 < 30
  exact hl
theorem f_mt (C : XOk X Γ sc k cl A W) {m : Mt} {a : E} {es : Es} {xs : List Expr} {ap : Pos} (hm : m = .append ∨ m = .insert ∨ m = .count) (hb : noCall0 x = true) (hl : (ap.endLine == pos.line) = true) (hk : (y :: xs).all okX = true) (h30 : (y :: xs).length < 30)
    (ha : PE X x (dE X.K A cl W a)) (hs : PA X (y :: xs) (dA X.K A cl W es)) : PE X (.Call (.Attribute x (mtNm m) ap) (y :: xs) [] pos) (dE X.K A cl W (.mt m a es)) := by
  have hk' := hk
  rw [List.all_cons, Bool.and_eq_true] at hk
  have fin : ∀ (id : String), MtR X id (dMt X.K A W (mtS m)) → (∀ (S1 : Sto) (u : Vl), mtTy m S1 u = true → (lstOf S1 u).isSome = true) → ∀ σ H Q, dE X.K A cl W (.mt m a es) σ H Q → tBM X.K "list" (dMt X.K A W (mtS m)) (dE X.K A cl W a) (dA X.K A cl W es) σ H Q :=
    fun id _ hty σ H Q ⟨φ, S, ρ, r, en, p⟩ => ⟨φ, S, ρ, r, en, Post.bind p fun u S1 φ1 H1 v e1 r1 l1 p1 => by
      by_cases c : mtTy m S1 u = true
      · rw [if_pos c] at p1
        exact ⟨lst_ty r1 l1 (hty S1 u c), φ1, S1, ρ, r1, en.ext e1.le, Post.bind p1 fun w S2 φ2 H2 v2 e2 r2 l2 p2 => ⟨φ2, S2, u, w, r2, l1.ext e2.le, l2, p2⟩⟩
      · rw [if_neg c] at p1; exact False.elim p1⟩
  rcases hm with rfl | rfl | rfl
  · exact (pe_bm PySem.F.plainAttrs_list PySem.F.slot_list_append PySem.F.type_list_append (mt_app (A := A) (W := W)) ha hs (base_ok hb _ _) (few_ok hk' h30) hl (star_ok hk.1 _ _) (back_ok hk.2)).imp (fin _ mt_app fun _ _ h => h)
  · exact (pe_bm PySem.F.plainAttrs_list PySem.F.slot_list_insert PySem.F.type_list_insert (mt_ins (A := A) (W := W)) ha hs (base_ok hb _ _) (few_ok hk' h30) hl (star_ok hk.1 _ _) (back_ok hk.2)).imp (fin _ mt_ins fun _ _ h => h)
  · exact (pe_bm PySem.F.plainAttrs_list PySem.F.slot_list_count PySem.F.type_list_count (mt_cnt (A := A) (W := W)) ha hs (base_ok hb _ _) (few_ok hk' h30) hl (star_ok hk.1 _ _) (back_ok hk.2)).imp (fin _ mt_cnt fun _ _ h => h)
theorem f_pop (C : XOk X Γ sc k cl A W) {a : E} {ap : Pos} (hb : noCall0 x = true) (hl : (ap.endLine == pos.line) = true) (ha : PE X x (dE X.K A cl W a)) : PE X (.Call (.Attribute x "pop" ap) [] [] pos) (dE X.K A cl W (.mt .pop0 a .nil)) :=
  (pe_bm0 PySem.F.plainAttrs_list PySem.F.slot_list_pop PySem.F.type_list_pop (mt_pp (A := A) (W := W)) ha (base_ok hb _ _) hl).imp fun σ H Q ⟨φ, S, ρ, r, en, p⟩ => ⟨φ, S, ρ, r, en, Post.bind p fun u S1 φ1 H1 v e1 r1 l1 p1 => by
      by_cases c : mtTy .pop0 S1 u = true
      · rw [if_pos c] at p1
        exact ⟨lst_ty r1 l1 c, φ1, S1, u, [], r1, l1, .nil, p1⟩
      · rw [if_neg c] at p1; exact False.elim p1⟩
theorem f_bits {a : E} {ap : Pos} (hb : noCall0 x = true) (hl : (ap.endLine == pos.line) = true) (ha : PE X x (dE X.K A cl W a)) : PE X (.Call (.Attribute x "bit_length" ap) [] [] pos) (dE X.K A cl W (.mt .bitLength a .nil)) :=
  (pe_bits ha (base_ok hb _ _) hl).imp fun σ H Q ⟨φ, S, ρ, r, en, p⟩ => ⟨φ, S, ρ, r, en, Post.bind p fun u S1 φ1 H1 v e1 r1 l1 p1 => by
    cases u with
    | int i => exact ⟨i, l1, (show Post X.K A (VR A) φ1 H1 (.ok (.int (Builtin.Int.intBits i : Nat)) S1) Q W from p1).now r1 rfl⟩
    | _ => exact False.elim p1⟩
theorem f_dict0 : PE X (.Dict [] [] pos) (dE X.K A cl W .dict0) :=
  pe_dnewK.imp fun σ H Q ⟨φ, S, ρ, r, en, p⟩ => fun q hq => Post.push p r hq fun φ' le => ⟨[], .nil, upd_same⟩
theorem f_lrg (C : XOk X Γ sc k cl A W) {es : Es} {xs : List Expr} {p1 p2 p3 : Pos} (hx : xs.length = 1 ∨ xs.length = 2) (hg : sc.names.lookup ("list" : Str) = some .globalImplicit) (hg2 : sc.names.lookup ("range" : Str) = some .globalImplicit) (hk : xs.all okX = true)
    (ha : xs.length = 1 → ∃ a x, es = .cons a .nil ∧ xs = [x] ∧ PE X x (dE X.K A cl W a)) (hb : xs.length = 2 → ∃ a x b y, es = .cons a (.cons b .nil) ∧ xs = [x, y] ∧ PE X x (dE X.K A cl W a) ∧ PE X y (dE X.K A cl W b)) :
    PE X (.Call (.Name "list" p1) [.Call (.Name "range" p2) xs [] p3] [] pos) (dE X.K A cl W (.lrg es)) := by
  have fin : ∀ {φ1 : Loc} {S1 : Sto} {H1 : Hp} {Q : VK} {i j : Int}, Rep X.K A φ1 S1 H1 → (-(2 ^ 62) ≤ i ∧ i < 2 ^ 62) → (-(2 ^ 62) ≤ j ∧ j < 2 ^ 62) → Post X.K A (VR A) φ1 H1 (if Nat.ble (j - i).toNat lineN then .ok (.ref S1.n) (S1.push (.lst ((List.range (j - i).toNat).map fun n => .int (i + (n : Nat))))) else .bad) Q W →
      RgOk i j ∧ ∀ q, H1 q = none → Q (.ref q) (upd H1 q (.lst (rgV i j))) := fun {φ1 S1 H1 Q i j} r1 hi hj p1 => by
    by_cases c : Nat.ble (j - i).toNat lineN = true
    · rw [if_pos c] at p1
      have hz : (j - i).toNat ≤ 2 ^ 24 := Nat.le_of_ble_eq_true c
      refine ⟨⟨hi.1, hi.2, hj.1, hj.2, hz⟩, fun q hq => Post.push p1 r1 hq fun φ' le => ⟨_, ?_, upd_same⟩⟩
      unfold rgV
      have all : ∀ l : List Nat, VRs A φ' (l.map fun n => Vl.int (i + (n : Nat))) (l.map fun n => V.int (i + (n : Nat))) := fun l => by
        induction l with
        | nil => exact .nil
        | cons n l ih => exact .cons rfl ih
      exact all _
    · rw [if_neg c] at p1; exact False.elim p1
  have bn : ∀ {i : Int}, bnd i = true → -(2 ^ 62) ≤ i ∧ i < 2 ^ 62 := fun h => by
    unfold bnd at h
    rw [Bool.and_eq_true, decide_eq_true_eq, decide_eq_true_eq] at h
    exact h
  rcases hx with hx | hx
  · obtain ⟨a, x, rfl, rfl, ga⟩ := ha hx
    have hkx : okX x = true := by simpa using hk
    refine (pe_listRg C.calm (gl_of C hg) (C.md.bi _ (by decide +kernel)) (prg_1 (gl_of C hg2) (C.md.bi _ (by decide +kernel)) ga (star_ok hkx _ _)) rfl).imp fun σ H Q ⟨φ, S, ρ, r, en, p⟩ => ⟨φ, S, ρ, r, en, ?_⟩
    have p : Post X.K A (VR A) φ H (((ev cl a ρ S).bind fun v S1 => .ok [v] S1).bind fun vs S1 => match rngOf vs with
      | some (lo, n) => if Nat.ble n lineN then .ok (.ref S1.n) (S1.push (.lst ((List.range n).map fun i => .int (lo + (i : Nat))))) else .bad
      | none => .bad) Q W := p
    have p : Post X.K A (VR A) φ H ((ev cl a ρ S).bind fun v S1 => match rngOf [v] with
      | some (lo, n) => if Nat.ble n lineN then .ok (.ref S1.n) (S1.push (.lst ((List.range n).map fun i => .int (lo + (i : Nat))))) else .bad
      | none => .bad) Q W := by
      cases q : ev cl a ρ S with
      | ok v S1 => rw [q] at p; exact p
      | exc k v S1 => rw [q] at p; exact p
      | bad => rw [q] at p; exact p
    refine Post.bind p fun u S1 φ1 H1 v e1 r1 l1 p1 => ?_
    cases u with
    | int j =>
      simp only [rngOf] at p1
      by_cases c : bnd j = true
      · rw [if_pos c] at p1
        obtain ⟨h1, h2⟩ := bn c
        refine ⟨j, l1, fin (i := 0) (j := j) r1 (by decide) ⟨h1, h2⟩ ?_⟩
        rw [Int.sub_zero]
        exact p1
      · rw [if_neg c] at p1; exact False.elim p1
    | _ => exact False.elim p1
  · obtain ⟨a, x, b, y, rfl, rfl, ga, gb⟩ := hb hx
    have hkk : okX x = true ∧ okX y = true := by simpa using hk
    refine (pe_listRg C.calm (gl_of C hg) (C.md.bi _ (by decide +kernel)) (prg_2 (gl_of C hg2) (C.md.bi _ (by decide +kernel)) ga gb (star_ok hkk.1 _ _) (star_ok hkk.2 _ _) (back_ok (by simpa using hkk.2))) rfl).imp fun σ H Q ⟨φ, S, ρ, r, en, p⟩ => ⟨φ, S, ρ, r, en, ?_⟩
    have p : Post X.K A (VR A) φ H ((ev cl a ρ S).bind fun v S1 => (ev cl b ρ S1).bind fun w S2 => match rngOf [v, w] with
      | some (lo, n) => if Nat.ble n lineN then .ok (.ref S2.n) (S2.push (.lst ((List.range n).map fun i => .int (lo + (i : Nat))))) else .bad
      | none => .bad) Q W := by
      have p : Post X.K A (VR A) φ H (((ev cl a ρ S).bind fun v S1 => ((ev cl b ρ S1).bind fun w S2 => .ok [w] S2).bind fun ws S2 => .ok (v :: ws) S2).bind fun vs S1 => match rngOf vs with
        | some (lo, n) => if Nat.ble n lineN then .ok (.ref S1.n) (S1.push (.lst ((List.range n).map fun i => .int (lo + (i : Nat))))) else .bad
        | none => .bad) Q W := p
      cases q : ev cl a ρ S with
      | ok v S1 =>
        rw [q] at p
        have p : Post X.K A (VR A) φ H ((((ev cl b ρ S1).bind fun w S2 => R.ok [w] S2).bind fun ws S2 => R.ok (v :: ws) S2).bind fun vs S1 => match rngOf vs with
          | some (lo, n) => if Nat.ble n lineN then .ok (.ref S1.n) (S1.push (.lst ((List.range n).map fun i => .int (lo + (i : Nat))))) else .bad
          | none => .bad) Q W := p
        show Post X.K A (VR A) φ H ((ev cl b ρ S1).bind _) Q W
        cases q2 : ev cl b ρ S1 with
        | ok w S2 => rw [q2] at p; exact p
        | exc k v S2 => rw [q2] at p; exact p
        | bad => rw [q2] at p; exact p
      | exc k v S1 => rw [q] at p; exact p
      | bad => rw [q] at p; exact p
    refine Post.bind p fun u S1 φ1 H1 v e1 r1 l1 p1 => ⟨φ1, S1, ρ, r1, en.ext e1.le, Post.bind p1 fun u2 S2 φ2 H2 v2 e2 r2 l2 p2 => ?_⟩
    cases u with
    | int i => cases u2 with
      | int j =>
        simp only [rngOf] at p2
        by_cases c : (bnd i && bnd j) = true
        · rw [if_pos c] at p2
          rw [Bool.and_eq_true] at c
          exact ⟨i, j, l1, l2, fin (i := i) (j := j) r2 (bn c.1) (bn c.2) p2⟩
        · rw [if_neg c] at p2; exact False.elim p2
      | _ => exact False.elim p2
    | _ => cases u2 <;> exact False.elim p2
end
end MP
namespace MP
open PySem PySem.Spec PyProof.Rows L2
section
variable {X : Cx} {Γ : Gam} {sc : Scope} {k : Nat} {cl : Nat → List Vl → Sto → R Vl} {A : Nat → Addr} {W : XK} {x y z e : Expr} {pos : Pos}
theorem same_set {σ : L2.St} {i : Nat} {v : V} : Same [i] σ (σ.set i (some v)) := ⟨List.length_set, fun j h => by
  rw [List.getElem?_set, if_neg]
  exact fun e => h (by rw [e]; exact List.mem_cons_self ..)⟩
theorem fg_name (C : XOk X Γ sc k cl A W) {own : Scope} (T : TgOk X own) {i : Nat} {n : Str} (hN : Γ.N[i]? = some n) (hl : L2.Loc own n) : PG X (.Name n pos) (dG X.K A cl W (.name i)) :=
  (pg_name (i := i) (by rw [C.N]; exact C.nd) (by rw [C.N]; exact hN) (T n hl).1 (T n hl).2).imp fun v σ H Q ⟨φ, S, ρ, u, r, en, l, p⟩ =>
    (show Post X.K A (fun φ' ρ' σ' => EnvR A φ' ρ' σ' ∧ Same (slots (.name i)) σ σ') φ H (.ok (ρ.set i (some u)) S) Q W from p).now (x := σ.set i (some v)) r ⟨en.set l i, same_set⟩
theorem fgs_nil : PGs X [] (dGs X.K A cl W .nil) := pgs_nil.imp fun vs σ H Q ⟨φ, S, ρ, us, r, en, l, p⟩ => by
  cases us with
  | nil =>
    cases l
    exact ⟨rfl, (show Post X.K A (fun φ' ρ' σ' => EnvR A φ' ρ' σ' ∧ Same (slotss .nil) σ σ') φ H (.ok ρ S) Q W from p).now (x := σ) r ⟨en, Same.refl⟩⟩
  | cons u us => exact False.elim p
theorem Post.rel {K : PySem.W.Frag} {φ : Loc} {H : Hp} {α β : Type} {Rl Rm : Loc → α → β → Prop} {r : R α} {Q Q' : β → Hp → Prop} (h : Post K A Rl φ H r Q W) (f : ∀ φ' a b H', Rm φ' a b → Rl φ' a b ∧ (Q b H' → Q' b H')) : Post K A Rm φ H r Q' W := by
  cases r with
  | ok v S' => exact fun φ' H' x e r l => (f φ' v x H' l).2 (h φ' H' x e r (f φ' v x H' l).1)
  | exc k v S' => exact h
  | bad => exact h
theorem fgs_cons {t : Tg} {ts : Tgs} {xs : List Expr} (hk : okX x = true) (h1 : PG X x (dG X.K A cl W t)) (h2 : PGs X xs (dGs X.K A cl W ts)) : PGs X (x :: xs) (dGs X.K A cl W (.cons t ts)) := by
  refine (pgs_cons h1 h2 (by rw [asgE_ok hk]; rfl)).imp fun vs σ H Q ⟨φ, S, ρ, us, r, en, l, p⟩ => ?_
  cases us with
  | nil => exact False.elim p
  | cons u us =>
    cases l with
    | cons l1 l2 =>
      refine ⟨_, _, rfl, φ, S, ρ, u, r, en, l1, ?_⟩
      have p : Post X.K A (fun φ' ρ' σ' => EnvR A φ' ρ' σ' ∧ Same (slotss (.cons t ts)) σ σ') φ H ((asn cl t u ρ S).bind fun ρ1 S1 => asns cl ts us ρ1 S1) Q W := p
      refine Post.bind p fun ρ1 S1 φ1 H1 σ1 e1 r1 l3 p1 => ⟨φ1, S1, ρ1, us, r1, l3.1, VRs.ext e1.le l2, p1.rel fun φ' a b H' hm => ⟨⟨hm.1, ?_⟩, id⟩⟩
      exact (l3.2.mono fun i hi => List.mem_append_left _ hi).trans (hm.2.mono fun i hi => List.mem_append_right _ hi)
theorem fg_tup (C : XOk X Γ sc k cl A W) {ts : Tgs} {xs : List Expr} {n : Nat} (hk : xs.all okX = true) (h : PGs X xs (dGs X.K A cl W ts)) (hl : ts.len = xs.length) : PG X (.Tuple xs n pos) (dG X.K A cl W (.tup ts)) := by
  obtain ⟨a1, a2⟩ := asgE_len (env := X.env) hk
  refine ((pg_tup C.calm h a1 a2).or (pg_unl C.calm h a1 a2)).imp fun v σ H Q ⟨φ, S, ρ, u, r, en, l, p⟩ => ?_
  have p : Post X.K A (fun φ' ρ' σ' => EnvR A φ' ρ' σ' ∧ Same (slotss ts) σ σ') φ H (match seqOf S u with | some vs => if Nat.beq vs.length ts.len then asns cl ts vs ρ S else .bad | none => .bad) Q W := p
  cases q : seqOf S u with
  | none => rw [q] at p; exact False.elim p
  | some vs =>
    rw [q] at p
    obtain ⟨a, ys, e, h1, h2⟩ := seqOf_sq r l q
    dsimp only at p
    by_cases c : Nat.beq vs.length ts.len = true
    case neg => rw [if_neg c] at p; exact False.elim p
    rw [if_pos c] at p
    have hlen : ys.length = xs.length := by
      rw [← Paired.len h1, Nat.eq_of_beq_eq_true c]; exact hl
    rcases h2 with h2 | h2
    · exact .inr ⟨a, ys, e, h2, hlen, φ, S, ρ, vs, r, en, h1, p⟩
    · exact .inl ⟨a, ys, e, h2, hlen, φ, S, ρ, vs, r, en, h1, p⟩
theorem fg_sub {a b : E} (hk : okX y = true) (ha : PE X x (dE X.K A cl W a)) (hb : PE X y (dE X.K A cl W b)) : PG X (.Subscript x y pos) (dG X.K A cl W (.sub a b)) :=
  (pg_sub ha hb (set_set (A := A) (W := W)) (fun v => by cases y <;> first | rfl | cases hk)).imp fun v σ H Q ⟨φ, S, ρ, u, r, en, l, p⟩ => ⟨φ, S, ρ, r, en, by
    have p : Post X.K A (fun φ' ρ' σ' => EnvR A φ' ρ' σ' ∧ Same (slots (.sub a b)) σ σ') φ H ((ev cl a ρ S).bind fun x S1 => (ev cl b ρ S1).bind fun y S2 => (setS x y u S2).bind fun _ S3 => .ok ρ S3) Q W := p
    refine Post.bind p fun u1 S1 φ1 H1 x1 e1 r1 l1 p1 => ⟨φ1, S1, ρ, r1, en.ext e1.le, Post.bind p1 fun u2 S2 φ2 H2 x2 e2 r2 l2 p2 => ⟨φ2, S2, u1, u2, u, r2, l1.ext e2.le, l2, (l.ext e1.le).ext e2.le, Post.bind p2 fun u3 S3 φ3 H3 x3 e3 r3 l3 p3 => ?_⟩⟩
    exact p3.now (x := σ) r3 ⟨((en.ext e1.le).ext e2.le).ext e3.le, Same.refl⟩⟩
theorem it_lst {K : PySem.W.Frag} {φ : Loc} {n : Nat} {a : Addr} (ha : φ n = some a) : ItR K A φ (.lst n) (Itl K a) := by
  intro φ' S' H' i le r
  simp only [MP.next]
  cases q : lstAt S' n with
  | none => trivial
  | some xs =>
    obtain ⟨a', ys, e, h1, h2⟩ := lstAt_sq (x := .ref a) r ⟨a, le n a ha, rfl⟩ q
    cases e
    cases q2 : xs[i]? with
    | none =>
      simp only [q2]
      exact ⟨ys, h2, by rw [← Paired.len h1]; exact List.getElem?_eq_none_iff.mp q2⟩
    | some v =>
      simp only [q2]
      obtain ⟨y, h3, h4⟩ := Paired.at1 h1 q2
      refine ⟨⟨ys, y, h2, h3⟩, fun x H2 ⟨e, h5⟩ => ?_⟩
      subst e
      have := h5 ys h2
      rw [h3] at this
      cases this
      exact ⟨φ', Ext.refl, r, h4⟩
theorem it_tup {K : PySem.W.Frag} {φ : Loc} {n : Nat} {a : Addr} (ha : φ n = some a) : ItR K A φ (.tup n) (Itt K a) := by
  intro φ' S' H' i le r
  simp only [MP.next]
  cases q : tupAt S' n with
  | none => trivial
  | some xs =>
    obtain ⟨a', ys, e, h1, h2⟩ := tupAt_sq (x := .ref a) r ⟨a, le n a ha, rfl⟩ q
    cases e
    cases q2 : xs[i]? with
    | none =>
      simp only [q2]
      exact ⟨ys, h2, by rw [← Paired.len h1]; exact List.getElem?_eq_none_iff.mp q2⟩
    | some v =>
      simp only [q2]
      obtain ⟨y, h3, h4⟩ := Paired.at1 h1 q2
      refine ⟨⟨ys, y, h2, h3⟩, fun x H2 ⟨e, h5⟩ => ?_⟩
      subst e
      have := h5 ys h2
      rw [h3] at this
      cases this
      exact ⟨φ', Ext.refl, r, h4⟩
theorem it_str {K : PySem.W.Frag} {φ : Loc} {s : Str} : ItR K A φ (.str s) (Its s) := by
  intro φ' S' H' i le r
  simp only [MP.next]
  cases q2 : s.cps.toList[i]? with
  | none =>
    simp only [q2]
    show s.cps.size ≤ i
    rw [← Array.length_toList]
    exact List.getElem?_eq_none_iff.mp q2
  | some c =>
    simp only [q2]
    have hlt : i < s.cps.toList.length := (List.getElem?_eq_some_iff.mp q2).1
    refine ⟨by show i < s.cps.size; rw [← Array.length_toList]; exact hlt, fun x H2 ⟨e, c', h5, h6⟩ => ?_⟩
    subst e
    rw [← Array.getElem?_toList, q2] at h5
    cases h5
    exact ⟨φ', Ext.refl, r, h6⟩
theorem it_rng {K : PySem.W.Frag} {φ : Loc} {lo : Int} {n : Nat} : ItR K A φ (.rng lo n) (L2.Itr lo n) := by
  intro φ' S' H' i le r
  simp only [MP.next]
  by_cases c : Nat.blt i n = true
  · rw [if_pos c]
    refine ⟨Nat.le_of_ble_eq_true c, fun x H2 ⟨e, h⟩ => ?_⟩
    subst e
    exact ⟨φ', Ext.refl, r, h⟩
  · rw [if_neg c]
    show n ≤ i
    have : ¬ i < n := fun z => c (Nat.ble_eq_true_of_le z)
    omega
theorem it_pair {K : PySem.W.Frag} {φ' : Loc} {S' : Sto} {H' : Hp} {T : Addr} {u v : Vl} {x y : V} (r : Rep K A φ' S' H') (hT : H' T = none) (l1 : VR A φ' u x) (l2 : VR A φ' v y) :
    ∃ φ2, Ext φ' H' φ2 (upd H' T (.tup [x, y])) ∧ Rep K A φ2 (S'.push (.tup [u, v])) (upd H' T (.tup [x, y])) ∧ VR A φ2 (.ref S'.n) (.ref T) := by
  obtain ⟨φ2, e, r2, q⟩ := r.push (o := .tup [u, v]) (u := .tup [x, y]) hT fun φ2 le => ⟨_, .cons (l1.ext le) (.cons (l2.ext le) .nil), upd_same⟩
  exact ⟨φ2, e, r2, T, q, rfl⟩
theorem it_enum {K : PySem.W.Frag} {φ : Loc} {n : Nat} {a : Addr} (ha : φ n = some a) : ItR K A φ (.enum n) (Ite K a) := by
  intro φ' S' H' i le r
  simp only [MP.next]
  cases q : lstAt S' n with
  | none => trivial
  | some xs =>
    obtain ⟨a', ys, e, h1, h2⟩ := lstAt_sq (x := .ref a) r ⟨a, le n a ha, rfl⟩ q
    cases e
    cases q2 : xs[i]? with
    | none =>
      simp only [q2]
      exact ⟨ys, h2, by rw [← Paired.len h1]; exact List.getElem?_eq_none_iff.mp q2⟩
    | some v =>
      simp only [q2]
      obtain ⟨y, h3, h4⟩ := Paired.at1 h1 q2
      refine ⟨⟨ys, y, h2, h3⟩, fun x H2 ⟨T, x', e, hT, e2, h5⟩ => ?_⟩
      subst e e2
      have := h5 ys h2
      rw [h3] at this
      cases this
      exact it_pair r hT rfl h4
theorem it_zip {K : PySem.W.Frag} {φ : Loc} {n m : Nat} {a b : Addr} (ha : φ n = some a) (hb : φ m = some b) : ItR K A φ (.zip n m) (Itz K a b) := by
  intro φ' S' H' i le r
  simp only [MP.next]
  cases q : lstAt S' n with
  | none => trivial
  | some xs =>
    cases q' : lstAt S' m with
    | none => trivial
    | some zs =>
      obtain ⟨a', ys, e, h1, h2⟩ := lstAt_sq (x := .ref a) r ⟨a, le n a ha, rfl⟩ q
      obtain ⟨b', ws, e', h1', h2'⟩ := lstAt_sq (x := .ref b) r ⟨b, le m b hb, rfl⟩ q'
      cases e
      cases e'
      cases q2 : xs[i]? with
      | none =>
        simp only [q2]
        exact ⟨ys, ws, h2, h2', .inl (by rw [← Paired.len h1]; exact List.getElem?_eq_none_iff.mp q2)⟩
      | some v =>
        cases q3 : zs[i]? with
        | none =>
          simp only [q2, q3]
          exact ⟨ys, ws, h2, h2', .inr (by rw [← Paired.len h1']; exact List.getElem?_eq_none_iff.mp q3)⟩
        | some w =>
          simp only [q2, q3]
          obtain ⟨y, h3, h4⟩ := Paired.at1 h1 q2
          obtain ⟨y', h3', h4'⟩ := Paired.at1 h1' q3
          refine ⟨⟨ys, ws, y, y', h2, h2', h3, h3'⟩, fun x H2 ⟨T, x1, x2, e, hT, e2, h5, h6⟩ => ?_⟩
          subst e e2
          have t1 := h5 ys h2
          have t2 := h6 ws h2'
          rw [h3] at t1
          rw [h3'] at t2
          cases t1
          cases t2
          exact it_pair r hT h4 h4'
theorem it_zipT {K : PySem.W.Frag} {φ : Loc} {n m : Nat} {a b : Addr} (ha : φ n = some a) (hb : φ m = some b) : ItR K A φ (.zipT n m) (RZ.ItzT K a b) := by
  intro φ' S' H' i le r
  simp only [MP.next]
  cases q : tupAt S' n with
  | none => trivial
  | some xs =>
    cases q' : tupAt S' m with
    | none => trivial
    | some zs =>
      obtain ⟨a', ys, e, h1, h2⟩ := tupAt_sq (x := .ref a) r ⟨a, le n a ha, rfl⟩ q
      obtain ⟨b', ws, e', h1', h2'⟩ := tupAt_sq (x := .ref b) r ⟨b, le m b hb, rfl⟩ q'
      cases e
      cases e'
      cases q2 : xs[i]? with
      | none =>
        simp only [q2]
        exact ⟨ys, ws, h2, h2', .inl (by rw [← Paired.len h1]; exact List.getElem?_eq_none_iff.mp q2)⟩
      | some v =>
        cases q3 : zs[i]? with
        | none =>
          simp only [q2, q3]
          exact ⟨ys, ws, h2, h2', .inr (by rw [← Paired.len h1']; exact List.getElem?_eq_none_iff.mp q3)⟩
        | some w =>
          simp only [q2, q3]
          obtain ⟨y, h3, h4⟩ := Paired.at1 h1 q2
          obtain ⟨y', h3', h4'⟩ := Paired.at1 h1' q3
          refine ⟨⟨ys, ws, y, y', h2, h2', h3, h3'⟩, fun x H2 ⟨T, x1, x2, e, hT, e2, h5, h6⟩ => ?_⟩
          subst e e2
          have t1 := h5 ys h2
          have t2 := h6 ws h2'
          rw [h3] at t1
          rw [h3'] at t2
          cases t1
          cases t2
          exact it_pair r hT h4 h4'
theorem lst_of_is {K : PySem.W.Frag} {φ : Loc} {S : Sto} {H : Hp} {u : Vl} {x : V} {n : Nat} (r : Rep K A φ S H) (l : VR A φ u x) (h : isLst S u = some n) : ∃ a xs, φ n = some a ∧ x = .ref a ∧ SqL K H a xs := by
  cases u with
  | ref m =>
    simp only [isLst] at h
    cases q : S.get m with
    | none => rw [q] at h; cases h
    | some o =>
      rw [q] at h
      obtain ⟨p, e, f, ob⟩ := VR.ref_of r l q
      cases o with
      | lst xs => obtain ⟨ys, h1, h2⟩ := seq_sq ob; cases h; exact ⟨p, ys, f, e, h2⟩
      | rol xs => obtain ⟨ys, h1, h2⟩ := rol_sq ob; cases h; exact ⟨p, ys, f, e, h2⟩
      | _ => cases h
  | _ => cases h
theorem tup_of_is {K : PySem.W.Frag} {φ : Loc} {S : Sto} {H : Hp} {u : Vl} {x : V} {n : Nat} (r : Rep K A φ S H) (l : VR A φ u x) (h : isTup S u = some n) : ∃ a xs, φ n = some a ∧ x = .ref a ∧ SqT K H a xs := by
  cases u with
  | ref m =>
    simp only [isTup] at h
    cases q : S.get m with
    | none => rw [q] at h; cases h
    | some o =>
      rw [q] at h
      obtain ⟨p, e, f, ob⟩ := VR.ref_of r l q
      cases o with
      | tup xs => obtain ⟨ys, h1, h2⟩ := tup_sq ob; cases h; exact ⟨p, ys, f, e, h2⟩
      | _ => cases h
  | _ => cases h
theorem fi_seq {tg : Expr} {a : E} (ha : PE X x (dE X.K A cl W a)) : PI X tg x (dI X.K A cl W (.seq a)) := by
  refine (((pi_list ha).or (pi_tup ha)).or (pi_str ha)).imp fun σ H Q ⟨φ, S, ρ, r, en, p⟩ => ?_
  have p : Post X.K A (fun φ' J I => ItR X.K A φ' J I) φ H ((ev cl a ρ S).bind fun x S1 => match seqItr S1 x with | some J => .ok J S1 | none => .bad) Q W := p
  cases q : ev cl a ρ S with
  | bad => rw [q] at p; exact False.elim p
  | exc j v S1 => exact .inl (.inl ⟨φ, S, ρ, r, en, by rw [q] at p ⊢; exact p⟩)
  | ok v S1 =>
    rw [q] at p
    have p : Post X.K A (fun φ' J I => ItR X.K A φ' J I) φ H (match seqItr S1 v with | some J => .ok J S1 | none => .bad) Q W := p
    cases v with
    | str s =>
      refine .inr ⟨φ, S, ρ, r, en, ?_⟩
      rw [q]
      exact fun φ1 H1 x e1 r1 l1 => ⟨s, l1, p φ1 H1 _ e1 r1 it_str⟩
    | ref n =>
      simp only [seqItr] at p
      cases q2 : S1.get n with
      | none => rw [q2] at p; exact False.elim p
      | some o =>
        rw [q2] at p
        cases o with
        | lst xs =>
          refine .inl (.inl ⟨φ, S, ρ, r, en, ?_⟩)
          rw [q]
          intro φ1 H1 x e1 r1 l1
          obtain ⟨a, e, f, ob⟩ := VR.ref_of r1 l1 q2
          obtain ⟨ys, h1, h2⟩ := seq_sq ob
          exact ⟨a, e, ⟨ys, h2⟩, p φ1 H1 _ e1 r1 (it_lst f)⟩
        | rol xs =>
          refine .inl (.inl ⟨φ, S, ρ, r, en, ?_⟩)
          rw [q]
          intro φ1 H1 x e1 r1 l1
          obtain ⟨a, e, f, ob⟩ := VR.ref_of r1 l1 q2
          obtain ⟨ys, h1, h2⟩ := rol_sq ob
          exact ⟨a, e, ⟨ys, h2⟩, p φ1 H1 _ e1 r1 (it_lst f)⟩
        | tup xs =>
          refine .inl (.inr ⟨φ, S, ρ, r, en, ?_⟩)
          rw [q]
          intro φ1 H1 x e1 r1 l1
          obtain ⟨a, e, f, ob⟩ := VR.ref_of r1 l1 q2
          obtain ⟨ys, h1, h2⟩ := tup_sq ob
          exact ⟨a, e, ⟨ys, h2⟩, p φ1 H1 _ e1 r1 (it_tup f)⟩
        | dK xs => exact False.elim p
    | _ => exact False.elim p
theorem bnd_of {i : Int} (h : bnd i = true) : -(2 ^ 62) ≤ i ∧ i < 2 ^ 62 := by
  unfold bnd at h
  rw [Bool.and_eq_true, decide_eq_true_eq, decide_eq_true_eq] at h
  exact h
theorem fi_rng1 (C : XOk X Γ sc k cl A W) {tg : Expr} {es : Es} {p : Pos} (hl : es.len = 1) (hg : sc.names.lookup ("range" : Str) = some .globalImplicit) (hk : okX x = true) (ha : PA X [x] (dA X.K A cl W es)) : PI X tg (.Call (.Name "range" p) [x] [] pos) (dI X.K A cl W (.rng es)) := by
  refine (pi_range1 (gl_of C hg) (C.md.bi _ (by decide +kernel)) ha (star_ok hk _ _)).imp fun σ H Q ⟨φ, S, ρ, r, en, p⟩ => ⟨φ, S, ρ, r, en, ?_⟩
  have p : Post X.K A (fun φ' J I => ItR X.K A φ' J I) φ H ((evs cl es ρ S).bind fun vs S1 => match rngOf vs with | some (lo, n) => .ok (.rng lo n) S1 | none => .bad) Q W := p
  refine Post.bindE p fun u S1 φ1 H1 v q e1 r1 l1 p1 => ?_
  have hlen := evs_len q
  rw [hl] at hlen
  match u, hlen, l1, p1 with
  | [.int j], _, l1, p1 =>
    obtain ⟨y, e, l⟩ := VRs.one l1
    cases l
    subst e
    simp only [rngOf] at p1
    by_cases c : bnd j = true
    · rw [if_pos c] at p1
      exact ⟨j, rfl, (bnd_of c).1, (bnd_of c).2, p1.now r1 it_rng⟩
    · rw [if_neg c] at p1; exact False.elim p1
  | [.non], _, _, p1 | [.bl _], _, _, p1 | [.str _], _, _, p1 | [.ref _], _, _, p1 | [.glo _], _, _, p1 => exact False.elim p1
theorem fi_rng2 (C : XOk X Γ sc k cl A W) {tg : Expr} {es : Es} {p : Pos} (hl : es.len = 2) (hg : sc.names.lookup ("range" : Str) = some .globalImplicit) (hk : okX x = true) (hk2 : okX y = true) (ha : PA X [x, y] (dA X.K A cl W es)) : PI X tg (.Call (.Name "range" p) [x, y] [] pos) (dI X.K A cl W (.rng es)) := by
  refine (pi_range2 (gl_of C hg) (C.md.bi _ (by decide +kernel)) ha (by rw [star_ok hk, star_ok hk2]; rfl) (star_ok hk2 _ _)).imp fun σ H Q ⟨φ, S, ρ, r, en, p⟩ => ⟨φ, S, ρ, r, en, ?_⟩
  have p : Post X.K A (fun φ' J I => ItR X.K A φ' J I) φ H ((evs cl es ρ S).bind fun vs S1 => match rngOf vs with | some (lo, n) => .ok (.rng lo n) S1 | none => .bad) Q W := p
  refine Post.bindE p fun u S1 φ1 H1 v q e1 r1 l1 p1 => ?_
  have hlen := evs_len q
  rw [hl] at hlen
  match u, hlen, l1, p1 with
  | [.int i, .int j], _, l1, p1 =>
    obtain ⟨y, y2, e, l, l2⟩ := VRs.two l1
    cases l
    cases l2
    subst e
    simp only [rngOf] at p1
    by_cases c : (bnd i && bnd j) = true
    · rw [if_pos c] at p1
      rw [Bool.and_eq_true] at c
      exact ⟨i, j, rfl, ⟨(bnd_of c.1).1, (bnd_of c.1).2, (bnd_of c.2).1, (bnd_of c.2).2⟩, p1.now r1 it_rng⟩
    · rw [if_neg c] at p1; exact False.elim p1
  | [.int i, .non], _, _, p1 | [.int i, .bl _], _, _, p1 | [.int i, .str _], _, _, p1 | [.int i, .ref _], _, _, p1 | [.int i, .glo _], _, _, p1 => exact False.elim p1
  | [.non, _], _, _, p1 | [.bl _, _], _, _, p1 | [.str _, _], _, _, p1 | [.ref _, _], _, _, p1 | [.glo _, _], _, _, p1 => exact False.elim p1
theorem fi_enum (C : XOk X Γ sc k cl A W) {xs : List Expr} {n : Nat} {tp : Pos} {a : E} {p : Pos} (hg : sc.names.lookup ("enumerate" : Str) = some .globalImplicit) (hk : okX x = true) (ha : PE X x (dE X.K A cl W a)) : PI X (.Tuple xs n tp) (.Call (.Name "enumerate" p) [x] [] pos) (dI X.K A cl W (.enum a)) := by
  refine (pi_enum (gl_of C hg) (C.md.bi _ (by decide +kernel)) (PA.all hk ha pa_nil) (star_ok hk _ _)).imp fun σ H Q ⟨φ, S, ρ, r, en, p⟩ => ⟨φ, S, ρ, r, en, ?_⟩
  have p : Post X.K A (fun φ' J I => ItR X.K A φ' J I) φ H ((ev cl a ρ S).bind fun x S1 => match isLst S1 x with | some n => .ok (.enum n) S1 | none => .bad) Q W := p
  refine Post.bind p fun u S1 φ1 H1 v e1 r1 l1 p1 => ?_
  cases q : isLst S1 u with
  | none => rw [q] at p1; exact False.elim p1
  | some m =>
    rw [q] at p1
    obtain ⟨a, ys, f, e, sq⟩ := lst_of_is r1 l1 q
    subst e
    exact ⟨a, ys, rfl, sq, p1.now r1 (it_enum f)⟩
theorem fi_zip (C : XOk X Γ sc k cl A W) {xs : List Expr} {n : Nat} {tp : Pos} {a b : E} {p : Pos} (hg : sc.names.lookup ("zip" : Str) = some .globalImplicit) (hk : okX x = true) (hk2 : okX y = true) (ha : PE X x (dE X.K A cl W a)) (hb : PE X y (dE X.K A cl W b)) :
    PI X (.Tuple xs n tp) (.Call (.Name "zip" p) [x, y] [] pos) (dI X.K A cl W (.zip a b)) := by
  refine (RZ.pi_zipA (gl_of C hg) (C.md.bi _ (by decide +kernel)) (PA.all hk ha (PA.all hk2 hb pa_nil)) (star_ok hk _ _) (back_ok (by simpa using hk2))).imp fun σ H Q ⟨φ, S, ρ, r, en, p⟩ => ⟨φ, S, ρ, r, en, ?_⟩
  have p : Post X.K A (fun φ' J I => ItR X.K A φ' J I) φ H ((ev cl a ρ S).bind fun x S1 => (ev cl b ρ S1).bind fun y S2 => match isLst S2 x, isLst S2 y with
    | some n, some m => .ok (.zip n m) S2
    | _, _ => match isTup S2 x, isTup S2 y with
      | some n, some m => .ok (.zipT n m) S2
      | _, _ => .bad) Q W := p
  refine Post.bind p fun u S1 φ1 H1 v e1 r1 l1 p1 => ⟨φ1, S1, ρ, r1, en.ext e1.le, Post.bind p1 fun u2 S2 φ2 H2 v2 e2 r2 l2 p2 => ?_⟩
  have lists : ∀ n m, isLst S2 u = some n → isLst S2 u2 = some m → Post X.K A (fun φ' J I => ItR X.K A φ' J I) φ2 H2 (.ok (.zip n m) S2) Q W → RZ.iZipA X.K (fun σ H Q => Q [v, v2] H) σ H2 Q := fun n m q q2 p2 => by
    obtain ⟨a, ys, f, e, sq⟩ := lst_of_is r2 (l1.ext e2.le) q
    obtain ⟨b, zs, f2, e', sq2⟩ := lst_of_is r2 l2 q2
    subst e e'
    exact ⟨a, b, ys, zs, rfl, .inl ⟨sq, sq2, p2.now r2 (it_zip f f2)⟩⟩
  have tups : ∀ n m, isTup S2 u = some n → isTup S2 u2 = some m → Post X.K A (fun φ' J I => ItR X.K A φ' J I) φ2 H2 (.ok (.zipT n m) S2) Q W → RZ.iZipA X.K (fun σ H Q => Q [v, v2] H) σ H2 Q := fun n m q q2 p2 => by
    obtain ⟨a, ys, f, e, sq⟩ := tup_of_is r2 (l1.ext e2.le) q
    obtain ⟨b, zs, f2, e', sq2⟩ := tup_of_is r2 l2 q2
    subst e e'
    exact ⟨a, b, ys, zs, rfl, .inr ⟨sq, sq2, p2.now r2 (it_zipT f f2)⟩⟩
  cases q : isLst S2 u with
  | some n => cases q2 : isLst S2 u2 with
    | some m => rw [q, q2] at p2; exact lists n m q q2 p2
    | none =>
      rw [q, q2] at p2
      cases q3 : isTup S2 u with
      | none => rw [q3] at p2; exact False.elim p2
      | some n' => cases q4 : isTup S2 u2 with
        | none => rw [q3, q4] at p2; exact False.elim p2
        | some m' => rw [q3, q4] at p2; exact tups n' m' q3 q4 p2
  | none =>
      rw [q] at p2
      cases q3 : isTup S2 u with
      | none => rw [q3] at p2; exact False.elim p2
      | some n' => cases q4 : isTup S2 u2 with
        | none => rw [q3, q4] at p2; exact False.elim p2
        | some m' => rw [q3, q4] at p2; exact tups n' m' q3 q4 p2
end
end MP
namespace MP
open PySem PySem.Spec PyProof.Rows L2
section
variable {K : PySem.W.Frag} {A : Nat → Addr} {φ φ0 φ1 : Loc} {H H0 H1 : Hp} {S : Sto} {W : XK}
/-- the new list, held aside, is known by a new number -/
theorem Rep.adopt (r : Rep K A φ S H) {p : Addr} {o : Ob} (n : ∀ i, φ i ≠ some p) (ho : ∀ φ', (∀ i a, φ i = some a → φ' i = some a) → ObR K A φ' H p o) (e0 : Ext φ0 H0 φ H) (hp : H0 p = none) :
    ∃ φ', Ext φ0 H0 φ' H ∧ Rep K A φ' (S.push o) H ∧ φ' S.n = some p := by
  have hn : φ S.n = none := by
    cases q : φ S.n with
    | none => rfl
    | some a =>
      obtain ⟨o', g⟩ := r.dom _ _ q
      exact absurd (Sto.get_lt g) (Nat.lt_irrefl _)
  have le : ∀ i a, φ i = some a → (fun i => if i = S.n then some p else φ i) i = some a := fun i a h => by
    have : i ≠ S.n := fun e => by rw [e, hn] at h; cases h
    show (if i = S.n then some p else φ i) = some a
    rw [if_neg this]; exact h
  refine ⟨fun i => if i = S.n then some p else φ i, ⟨fun i a h => le i a (e0.le i a h), fun i a h h0 => ?_, e0.keep, e0.old⟩, ⟨fun i a h => ?_, fun i q h => ?_, fun i j a h1 h2 t1 t2 => ?_⟩, by show (if S.n = S.n then some p else φ S.n) = some p; rw [if_pos rfl]⟩
  · have h : (if i = S.n then some p else φ i) = some a := h
    by_cases e : i = S.n
    · rw [if_pos e] at h; cases h; exact hp
    · rw [if_neg e] at h
      exact e0.new i a h h0
  · have h : (if i = S.n then some p else φ i) = some a := h
    rw [Sto.get_push]
    by_cases e : i = S.n
    · exact ⟨o, if_pos e⟩
    · rw [if_neg e] at h ⊢
      exact r.dom _ _ h
  · rw [Sto.get_push] at h
    by_cases e : i = S.n
    · rw [if_pos e] at h; cases h
      exact ⟨p, by show (if i = S.n then some p else φ i) = some p; rw [if_pos e], ho _ le⟩
    · rw [if_neg e] at h
      obtain ⟨a, h1, h2⟩ := r.obj i q h
      exact ⟨a, le i a h1, h2.ext le fun v hv => hv⟩
  · have h1 : (if i = S.n then some p else φ i) = some a := h1
    have h2 : (if j = S.n then some p else φ j) = some a := h2
    have back : ∀ k, k ≠ S.n → Trk (S.push o) k → Trk S k := fun k hk ⟨o', g, t⟩ => by
      rw [Sto.get_push, if_neg hk] at g
      exact ⟨o', g, t⟩
    by_cases e1 : i = S.n
    · by_cases e2 : j = S.n
      · rw [e1, e2]
      · rw [if_pos e1] at h1; cases h1
        rw [if_neg e2] at h2
        exact absurd h2 (n j)
    · rw [if_neg e1] at h1
      by_cases e2 : j = S.n
      · rw [if_pos e2] at h2; cases h2
        exact absurd h1 (n i)
      · rw [if_neg e2] at h2
        exact r.inj i j a h1 h2 (back i e1 t1) (back j e2 t2)
/-- two runs in a row, what is wanted told from an earlier place -/
theorem Post.bindAt {α β γ δ : Type} {Rl : Loc → α → β → Prop} {Rm : Loc → γ → δ → Prop} {r : R α} {f : α → Sto → R γ} {Q : δ → Hp → Prop} {Q1 : β → Hp → Prop} (e0 : Ext φ0 H0 φ H) (h : Post K A Rm φ0 H0 (r.bind f) Q W)
    (k : ∀ v S1 φ1 H1 x, Ext φ H φ1 H1 → Rep K A φ1 S1 H1 → Rl φ1 v x → Post K A Rm φ0 H0 (f v S1) Q W → Q1 x H1) (nx : ∀ k v S1, r ≠ .exc k v S1) {W' : XK} : Post K A Rl φ H r Q1 W' := by
  cases r with
  | ok v S' => exact fun φ' H' x e r l => k v S' φ' H' x e r l h
  | exc k v S' => exact absurd rfl (nx k v S')
  | bad => exact h
end
section
variable {X : Cx} {Γ : Gam} {sc : Scope} {k : Nat} {cl : Nat → List Vl → Sto → R Vl} {A : Nat → Addr} {W : XK} {x y z e : Expr} {pos : Pos}
abbrev WF : XK := fun _ _ _ => False
/-- a block's names, as it runs in sc -/
def relb (sc scope : Scope) : Scope := { scope with names := scope.names.map fun (n, k) => if (k == .free && sc.kind == .function && sc.names.lookup n == some .cell) then (n, .cell) else (n, k) }
theorem XOk.blk (C : XOk X Γ sc k cl A W) (s : Shared) (H : Hp) (scope : Scope) (Cc : Addr) (cs : List (Str × Addr)) (fp : List Addr) : XOk (X.blk s H scope (compEnvC scope cs Cc X.env) fp) Γ (relb sc scope) k cl A WF where
  N := C.N
  nd := C.nd
  sc := by rw [← C.sc]; rfl
  calm := C.calm
  gd := C.gd
  md := C.md
  rm := C.rm
  tk := fun u s' ⟨a, B, sI, pins, σ, H, cls, d, e, I, nb, up, sky, na, os, ag, w⟩ => w.elim
theorem TgOk.blk (s : Shared) (H : Hp) (scope : Scope) (Cc : Addr) (cs : List (Str × Addr)) (fp : List Addr) : TgOk (X.blk s H scope (compEnvC scope cs Cc X.env) fp) scope := fun x h => by
  have rel : ∀ k0 : NameKind, (k0 == NameKind.free) = false → scope.names.lookup x = some k0 → (relabel scope X.env).names.lookup x = some k0 := fun k0 h0 h => by
    have go : ∀ {names : List (Str × NameKind)}, names.lookup x = some k0 → (names.map fun (n, k) => if (k == NameKind.free && X.env.scope.kind == .function && X.env.kindOf n == some .cell) then (n, NameKind.cell) else (n, k)).lookup x = some k0 := fun {names} => by
      induction names with
      | nil => exact id
      | cons p r ih =>
        obtain ⟨n, k⟩ := p
        intro h
        show List.lookup x ((if (k == NameKind.free && X.env.scope.kind == .function && X.env.kindOf n == some .cell) = true then (n, NameKind.cell) else (n, k)) :: _) = _
        cases hx : x == n with
        | true =>
          simp only [List.lookup_cons, hx] at h
          cases h
          simp [List.lookup_cons, hx, h0]
        | false =>
          simp only [List.lookup_cons, hx] at h
          split <;> (simp only [List.lookup_cons, hx]; exact ih h)
    exact go h
  rcases h with h | h
  · exact ⟨.inl (rel _ rfl h), .inr (rel _ rfl h)⟩
  · refine ⟨.inr (rel _ rfl h), .inl ?_⟩
    show (scope.names.lookup x == some .cell) = true
    rw [h]
    decide
theorem lc_eq (as : Vl → Sto → R MP.Env) (tt : MP.Env → Sto → R Bool) (el : MP.Env → Sto → R Vl) (J : MP.Itr) (f i : Nat) (acc : List Vl) (S : Sto) : lcLoop as tt el J (f + 1) i acc S = match next J i S with
    | none => .bad
    | some none => newL acc.reverse S
    | some (some (v, S1)) => match as v S1 with
      | .ok ρ S2 => match tt ρ S2 with
        | .ok true S3 => match el ρ S3 with
          | .ok y S4 => lcLoop as tt el J f (i + 1) (y :: acc) S4
          | _ => .bad
        | .ok false S3 => lcLoop as tt el J f (i + 1) acc S3
        | _ => .bad
      | _ => .bad := rfl
theorem lc_len {as : Vl → Sto → R MP.Env} {tt : MP.Env → Sto → R Bool} {el : MP.Env → Sto → R Vl} {J : MP.Itr} : ∀ {f i : Nat} {acc : List Vl} {S S' : Sto} {v : Vl}, lcLoop as tt el J f i acc S = .ok v S' → acc.length ≤ lineN
  | 0, i, acc, S, S', v, h => by cases h
  | f + 1, i, acc, S, S', v, h => by
    rw [lc_eq] at h
    cases q : next J i S with
    | none => rw [q] at h; cases h
    | some o => cases o with
      | none =>
        rw [q] at h
        dsimp only at h
        unfold newL at h
        by_cases c : Nat.ble acc.reverse.length lineN = true
        · have := Nat.le_of_ble_eq_true c
          rw [List.length_reverse] at this
          exact this
        · rw [if_neg c] at h; cases h
      | some vS =>
        obtain ⟨v, S2⟩ := vS
        rw [q] at h
        dsimp only at h
        cases qa : as v S2 with
        | bad => rw [qa] at h; cases h
        | exc k1 v1 S3 => rw [qa] at h; cases h
        | ok ρ S3 =>
          rw [qa] at h
          dsimp only at h
          cases qt : tt ρ S3 with
          | bad => rw [qt] at h; cases h
          | exc k1 v1 S3 => rw [qt] at h; cases h
          | ok b S4 =>
            rw [qt] at h
            cases b with
            | false => exact lc_len h
            | true =>
              dsimp only at h
              cases qe : el ρ S4 with
              | bad => rw [qe] at h; cases h
              | exc k1 v1 S3 => rw [qe] at h; cases h
              | ok y S5 =>
                rw [qe] at h
                have := lc_len h
                rw [List.length_cons] at this
                omega
theorem lc_exc {as : Vl → Sto → R MP.Env} {tt : MP.Env → Sto → R Bool} {el : MP.Env → Sto → R Vl} {J : MP.Itr} : ∀ {f i : Nat} {acc : List Vl} {S S' : Sto} {k : Nat} {v : Vl}, lcLoop as tt el J f i acc S ≠ .exc k v S'
  | 0, i, acc, S, S', k, v, h => by cases h
  | f + 1, i, acc, S, S', k, v, h => by
    rw [lc_eq] at h
    cases q : next J i S with
    | none => rw [q] at h; cases h
    | some o => cases o with
      | none =>
        rw [q] at h
        dsimp only at h
        unfold newL at h
        split at h <;> cases h
      | some vS =>
        obtain ⟨v, S2⟩ := vS
        rw [q] at h
        dsimp only at h
        cases qa : as v S2 with
        | bad => rw [qa] at h; cases h
        | exc k1 v1 S3 => rw [qa] at h; cases h
        | ok ρ S3 =>
          rw [qa] at h
          dsimp only at h
          cases qt : tt ρ S3 with
          | bad => rw [qt] at h; cases h
          | exc k1 v1 S3 => rw [qt] at h; cases h
          | ok b S4 =>
            rw [qt] at h
            cases b with
            | false => exact lc_exc h
            | true =>
              dsimp only at h
              cases qe : el ρ S4 with
              | bad => rw [qe] at h; cases h
              | exc k1 v1 S3 => rw [qe] at h; cases h
              | ok y S5 =>
                rw [qe] at h
                exact lc_exc h
theorem f_lc (C : XOk X Γ sc k cl A W) {own : List Nat} {own' : List (Str × Nat)} {tg : Tg} {it : MP.It} {ifs : Tt} {elt : E} {tgx iter el : Expr} {cs : List Expr} {scope : Scope} (ho : own'.map (·.2) = own) (ok : BlkOk Γ.N sc scope own') (hs : ∀ i ∈ slots tg, i ∈ own)
    (hi : PI X tgx iter (dI X.K A cl W it)) (hf : okX iter = true) (hg : ∀ (X' : Cx), XOk X' Γ (relb sc scope) k cl A WF → TgOk X' scope → PG X' tgx (dG X'.K A cl WF tg)) (ht : ∀ (X' : Cx), XOk X' Γ (relb sc scope) k cl A WF → PTs X' cs (dT X'.K A cl WF ifs)) (he : ∀ (X' : Cx), XOk X' Γ (relb sc scope) k cl A WF → PE X' el (dE X'.K A cl WF elt)) :
    PE X (.ListComp el [⟨tgx, iter, cs, 0⟩] scope pos) (dE X.K A cl W (.lc own tg it ifs elt)) ∧
    ∀ {i : Nat} {n : Str} {py spos : Pos}, Γ.N[i]? = some n → sc.names.lookup n = some .local → swapsWith (.ListComp el [⟨tgx, iter, cs, 0⟩] scope pos) (some (.Name n py)) spos.line X.env = pure true →
      PS X (.Assign [.Name n py] (.ListComp el [⟨tgx, iter, cs, 0⟩] scope pos) spos) (fun D σ H => dE X.K A cl W (.lc own tg it ifs elt) σ H fun x H1 => D.nx (σ.set i (some x)) H1) := by
  have core : ∀ σ H Q, dE X.K A cl W (.lc own tg it ifs elt) σ H Q → tLc (dI X.K A cl W it) (dG X.K A cl WF tg) (dT X.K A cl WF ifs) (dE X.K A cl WF elt) (own'.map (·.2)) σ H Q := by
    intro σ H Q ⟨φ, S, ρ, r, en, p⟩
    rw [ho]
    refine ⟨φ, S, ρ, r, en, ?_⟩
    have p : Post X.K A (VR A) φ H ((itr cl it ρ S).bind fun J S1 => lcLoop (fun v S' => asn cl tg v (MP.wipe ρ own) S') (fun ρ' S' => tst cl ifs ρ' S') (fun ρ' S' => ev cl elt ρ' S') J LF 0 [] S1) Q W := p
    refine Post.bind p fun Jt S1 φ1 H1 J e1 r1 l1 p1 => fun D hD => ?_
    have en1 := (en.ext e1.le).wipe own
    refine ⟨fun i m Hc => ∃ φc Sc acc ys, Rep X.K A φc Sc Hc ∧ Ext φ1 H1 φc Hc ∧ VRs A φc (List.reverse acc) ys ∧ Hc D = some (.lst ys) ∧ (∀ i, φc i ≠ some D) ∧ Post X.K A (VR A) φ1 H1 (lcLoop (fun v S' => asn cl tg v (MP.wipe ρ own) S') (fun ρ' S' => tst cl ifs ρ' S') (fun ρ' S' => ev cl elt ρ' S') Jt m i acc Sc) Q W,
      ⟨LF, φ1, S1, [], [], r1.free (r1.not_in hD) _, Ext.refl.free hD _, .nil, upd_same, r1.not_in hD, p1⟩, ?_⟩
    rintro i m Hc ⟨φc, Sc, acc, ys, rc, ec, vc, hDc, nD, pc⟩
    cases m with
    | zero => exact False.elim pc
    | succ m =>
      rw [lc_eq] at pc
      have hJ := l1 φc Sc Hc i ec.le rc
      cases q : next Jt i Sc with
      | none => rw [q] at pc; exact False.elim pc
      | some o =>
        cases o with
        | none =>
          rw [q] at pc hJ
          refine .inl ⟨hJ, ?_⟩
          have pc : Post X.K A (VR A) φ1 H1 (newL acc.reverse Sc) Q W := pc
          unfold newL at pc
          by_cases c : Nat.ble acc.reverse.length lineN = true
          · rw [if_pos c] at pc
            obtain ⟨φ2, e2, r2, q2⟩ := rc.adopt (o := .lst acc.reverse) nD (fun φ' le => ⟨ys, VRs.ext le vc, hDc⟩) ec hD
            exact pc φ2 Hc (.ref D) e2 r2 ⟨D, q2, rfl⟩
          · rw [if_neg c] at pc; exact False.elim pc
        | some vS =>
          obtain ⟨v, S2⟩ := vS
          rw [q] at pc hJ
          obtain ⟨hgo, hy⟩ := hJ
          dsimp only at pc
          refine .inr ⟨hgo, fun Hn => ∃ m', m' < m + 1 ∧ ∃ φc Sc acc ys, Rep X.K A φc Sc Hn ∧ Ext φ1 H1 φc Hn ∧ VRs A φc (List.reverse acc) ys ∧ Hn D = some (.lst ys) ∧ (∀ i, φc i ≠ some D) ∧ Post X.K A (VR A) φ1 H1 (lcLoop (fun v S' => asn cl tg v (MP.wipe ρ own) S') (fun ρ' S' => tst cl ifs ρ' S') (fun ρ' S' => ev cl elt ρ' S') Jt m' (i + 1) acc Sc) Q W, fun H' h => h, fun x H' hx => ?_⟩
          obtain ⟨φ2, e2, r2, l2⟩ := hy x H' hx
          have hold : ∀ {φa φb : Loc} {Ha Hb : Hp} {zs : List V}, Ext φa Ha φb Hb → (∀ i, φa i ≠ some D) → Ha D = some (.lst zs) → (∀ i, φb i ≠ some D) ∧ Hb D = some (.lst zs) := fun {φa φb Ha Hb zs} e n h => by
            refine ⟨fun j hj => ?_, e.keep D _ h n⟩
            cases qa : φa j with
            | none =>
              have := e.new j D hj qa
              rw [h] at this; cases this
            | some b =>
              have := e.le j b qa
              rw [hj] at this; cases this
              exact n j qa
          obtain ⟨n2, d2⟩ := hold e2 nD hDc
          refine ⟨φ2, S2, MP.wipe ρ own, v, r2, en1.ext (ec.trans e2).le, l2, ?_⟩
          cases qa : asn cl tg v (MP.wipe ρ own) S2 with
          | bad => rw [qa] at pc; exact False.elim pc
          | exc k1 v1 S3 => rw [qa] at pc; exact False.elim pc
          | ok ρ3 S3 =>
            rw [qa] at pc
            dsimp only at pc
            intro φ3 H3 σ3 e3 r3 l3
            obtain ⟨n3, d3⟩ := hold e3 n2 d2
            refine ⟨l3.2.wiped hs, φ3, S3, ρ3, r3, l3.1, ?_⟩
            cases qt : tst cl ifs ρ3 S3 with
            | bad => rw [qt] at pc; exact False.elim pc
            | exc k1 v1 S4 => rw [qt] at pc; exact False.elim pc
            | ok b S4 =>
              rw [qt] at pc
              intro φ4 H4 b' e4 r4 l4
              subst l4
              obtain ⟨n4, d4⟩ := hold e4 n3 d3
              cases b with
              | false =>
                rw [if_neg Bool.false_ne_true]
                exact ⟨m, Nat.lt_succ_self m, φ4, S4, acc, ys, r4, ((ec.trans e2).trans e3).trans e4, VRs.ext ((e2.trans e3).trans e4).le vc, d4, n4, pc⟩
              | true =>
                rw [if_pos rfl]
                dsimp only at pc
                refine ⟨φ4, S4, ρ3, r4, l3.1.ext e4.le, ?_⟩
                cases qe : ev cl elt ρ3 S4 with
                | bad => rw [qe] at pc; exact False.elim pc
                | exc k1 v1 S5 => rw [qe] at pc; exact False.elim pc
                | ok y S5 =>
                  rw [qe] at pc
                  dsimp only at pc
                  intro φ5 H5 y' e5 r5 l5
                  obtain ⟨n5, d5⟩ := hold e5 n4 d4
                  have vc' : VRs A φ5 (List.reverse (y :: acc)) (ys ++ [y']) := by
                    rw [List.reverse_cons]
                    exact Paired.app (VRs.ext (((e2.trans e3).trans e4).trans e5).le vc) (.cons l5 .nil)
                  have hz : ys.length < sizeLine := by
                    have hl : (y :: acc).length ≤ lineN := by
                      cases qf : lcLoop (fun v S' => asn cl tg v (MP.wipe ρ own) S') (fun ρ' S' => tst cl ifs ρ' S') (fun ρ' S' => ev cl elt ρ' S') Jt m (i + 1) (y :: acc) S5 with
                      | ok w S6 => exact lc_len qf
                      | exc k1 v1 S6 => exact absurd qf lc_exc
                      | bad => rw [qf] at pc; exact False.elim pc
                    have e1 := Paired.len vc
                    rw [List.length_reverse] at e1
                    rw [List.length_cons] at hl
                    rw [← e1]
                    exact hl
                  refine ⟨ys, d5, hz, m, Nat.lt_succ_self m, φ5, S5, y :: acc, ys ++ [y'], r5.free n5 _, ((((ec.trans e2).trans e3).trans e4).trans e5).free hD _, vc', upd_same, n5, pc⟩
  refine ⟨(pe_lc (wi := dI X.K A cl W it) (g := dG X.K A cl WF tg) (tt := dT X.K A cl WF ifs) (te := dE X.K A cl WF elt) C.calm (by rw [C.N]; exact C.nd) hi (by rw [C.N, C.sc]; exact ok) (fun s H Cc cl' fp => hg _ (C.blk s H scope Cc cl' fp) (TgOk.blk s H scope Cc cl' fp)) (fun s H Cc cl' fp => ht _ (C.blk s H scope Cc cl' fp)) (fun s H Cc cl' fp => he _ (C.blk s H scope Cc cl' fp)) (fold_ok hf X.env)).imp core, fun {i n py spos} hN hl hsw => ?_⟩
  have h := ps_setLc (i := i) (wi := dI X.K A cl W it) (g := dG X.K A cl WF tg) (tt := dT X.K A cl WF ifs) (te := dE X.K A cl WF elt) C.calm (by rw [C.N]; exact C.nd) (by rw [C.N]; exact hN) (by rw [C.sc]; exact hl) hsw hi (by rw [C.N, C.sc]; exact ok) (fun s H Cc cl' fp => hg _ (C.blk s H scope Cc cl' fp) (TgOk.blk s H scope Cc cl' fp)) (fun s H Cc cl' fp => ht _ (C.blk s H scope Cc cl' fp)) (fun s H Cc cl' fp => he _ (C.blk s H scope Cc cl' fp)) (fold_ok hf X.env)
  exact ⟨fun pins s σ H D I q => h.run pins s σ H D I (core σ H _ q)⟩
end
end MP
namespace MP
open PySem PySem.Spec PyProof.Rows L2
def lk : List (Str × NameKind) → Str → Option NameKind
  | [], _ => none
  | (y, k) :: r, x => match strEq x y with
    | true => some k
    | false => lk r x
theorem strEq_beq (a b : Str) : (a == b) = strEq a b := by
  by_cases e : a = b
  · subst e
    rw [strEq_iff.mpr rfl]; simp
  · have e1 : strEq a b = false := by
      cases q : strEq a b with
      | false => rfl
      | true => exact absurd (strEq_iff.mp q) e
    rw [e1]
    simpa using e
theorem lk_eq : ∀ (l : List (Str × NameKind)) (x : Str), lk l x = l.lookup x
  | [], _ => rfl
  | (y, k) :: r, x => by
    unfold lk
    rw [List.lookup_cons, strEq_beq]
    cases strEq x y with
    | true => rfl
    | false => exact lk_eq r x
def visC (sc : Scope) (x : Str) : Bool := match lk sc.names x with
  | some .local => true | some .cell => true | some .free => true | _ => false
def locC (sc : Scope) (x : Str) : Bool := match lk sc.names x with
  | some .local => true | some .cell => true | _ => false
def lclC (sc : Scope) (x : Str) : Bool := match lk sc.names x with
  | some .local => true | _ => false
def gloC (sc : Scope) (x : Str) : Bool := match lk sc.names x with
  | some .globalImplicit => true | _ => false
theorem visC_of {sc : Scope} {x : Str} (h : visC sc x = true) : Vis sc x := by
  unfold visC at h
  rw [lk_eq] at h
  unfold Vis
  split at h
  · rename_i e; exact .inl e
  · rename_i e; exact .inr (.inl e)
  · rename_i e; exact .inr (.inr e)
  · cases h
theorem locC_of {sc : Scope} {x : Str} (h : locC sc x = true) : L2.Loc sc x := by
  unfold locC at h
  rw [lk_eq] at h
  split at h
  · rename_i e; exact .inl e
  · rename_i e; exact .inr e
  · cases h
theorem lclC_of {sc : Scope} {x : Str} (h : lclC sc x = true) : sc.names.lookup x = some .local := by
  unfold lclC at h
  rw [lk_eq] at h
  split at h
  · rename_i e; exact e
  · cases h
theorem gloC_of {sc : Scope} {x : Str} (h : gloC sc x = true) : sc.names.lookup x = some .globalImplicit := by
  unfold gloC at h
  rw [lk_eq] at h
  split at h
  · rename_i e; exact e
  · cases h
def atN (N : List Str) (i : Nat) (x : Str) : Bool := match N[i]? with
  | some y => strEq y x
  | none => false
theorem atN_of {N : List Str} {i : Nat} {x : Str} (h : atN N i x = true) : N[i]? = some x := by
  unfold atN at h
  cases q : N[i]? with
  | none => rw [q] at h; cases h
  | some y => rw [q] at h; rw [strEq_iff.mp h]
def atF (F : List (Str × List Str)) (i : Nat) (x : Str) : Bool := match F[i]? with
  | some y => strEq y.1 x
  | none => false
theorem atF_of {F : List (Str × List Str)} {i : Nat} {x : Str} (h : atF F i x = true) : ∃ ps, F[i]? = some (x, ps) := by
  unfold atF at h
  cases q : F[i]? with
  | none => rw [q] at h; cases h
  | some y => rw [q] at h; exact ⟨y.2, by rw [← strEq_iff.mp h]⟩
def opC (o : Op2) (p : Operator) : Bool := match o, p with
  | .add, .Add => true | .sub, .Sub => true | .mul, .Mult => true | .fdiv, .FloorDiv => true | .mod, .Mod => true | .pow, .Pow => true
  | _, _ => false
theorem opC_of {o : Op2} {p : Operator} (h : opC o p = true) : p = opOf o := by
  cases o <;> cases p <;> first | rfl | cases h
def cmC (o : Cm) (p : CmpOp) : Bool := match o, p with
  | .eq, .Eq => true | .ne, .NotEq => true | .lt, .Lt => true | .le, .LtE => true | .gt, .Gt => true | .ge, .GtE => true | .is_, .Is => true | .isn, .IsNot => true | .in_, .In => true | .nin, .NotIn => true
  | _, _ => false
theorem cmC_of {o : Cm} {p : CmpOp} (h : cmC o p = true) : p = cmOf o := by
  cases o <;> cases p <;> first | rfl | cases h
def plainT : Expr → Bool
  | .UnaryOp .. => false | .BoolOp .. => false | .IfExp .. => false | .Compare .. => false | _ => true
theorem plainT_of {x : Expr} (h : plainT x = true) (env : PySem.Env) (whole : Sem Value) : isTrue x env whole = (do let v ← whole; standAt x.pos; holding [v] (truthy v)) := by
  cases x <;> first | rfl | cases h
def isYes : Tt → Bool
  | .yes => true
  | _ => false
def isNil : Es → Bool
  | .nil => true
  | _ => false
def lstMt : Mt → Bool
  | .append => true | .insert => true | .count => true | _ => false
def tysC (sc : Scope) : List BT → List Expr → Bool
  | [], [] => true
  | t :: ts, .Name x _ :: xs => (match t with | .none => false | _ => true) && (strEq x (btS t) && (gloC sc x && tysC sc ts xs))
  | _, _ => false
theorem tysC_of {sc : Scope} : ∀ {ts : List BT} {xs : List Expr}, tysC sc ts xs = true → TyNames sc ts xs
  | [], [], _ => .nil
  | [], _ :: _, h => by cases h
  | t :: ts, [], h => by cases h
  | t :: ts, x :: xs, h => by
    cases x with
    | Name n p =>
      simp only [tysC, Bool.and_eq_true] at h
      obtain ⟨h1, h2, h3, h4⟩ := h
      have e := strEq_iff.mp h2
      subst e
      exact .cons (fun e => by rw [e] at h1; cases h1) (gloC_of h3) (tysC_of h4)
    | _ => cases h
/-- a literal's value, as a default -/
def dvBeq : List Vl → List Vl → Bool
  | [], [] => true
  | .non :: a, .non :: b => dvBeq a b
  | .bl x :: a, .bl y :: b => (x == y) && dvBeq a b
  | .int x :: a, .int y :: b => decide (x = y) && dvBeq a b
  | .str x :: a, .str y :: b => strEq x y && dvBeq a b
  | _, _ => false
theorem dvBeq_of : ∀ {a b : List Vl}, dvBeq a b = true → a = b
  | [], [], _ => rfl
  | [], _ :: _, h => by cases h
  | x :: a, [], h => by cases x <;> cases h
  | x :: a, y :: b, h => by
    cases x <;> cases y <;> first | (cases h; done) | skip
    · rw [dvBeq_of (a := a) (b := b) h]
    · simp only [dvBeq, Bool.and_eq_true, beq_iff_eq] at h
      rw [h.1, dvBeq_of h.2]
    · simp only [dvBeq, Bool.and_eq_true, decide_eq_true_eq] at h
      rw [h.1, dvBeq_of h.2]
    · simp only [dvBeq, Bool.and_eq_true] at h
      rw [strEq_iff.mp h.1, dvBeq_of h.2]
def callC (f n : Nat) (dv : List Vl) : List (Nat × Nat × List Vl) → Bool
  | [] => false
  | c :: cs => (Nat.beq c.1 f && (Nat.beq c.2.1 n && dvBeq c.2.2 dv)) || callC f n dv cs
theorem callC_of {f n : Nat} {dv : List Vl} : ∀ {cs : List (Nat × Nat × List Vl)}, callC f n dv cs = true → (f, n, dv) ∈ cs
  | [], h => by cases h
  | c :: cs, h => by
    simp only [callC, Bool.or_eq_true, Bool.and_eq_true] at h
    rcases h with ⟨h1, h2, h3⟩ | h
    · obtain ⟨a, b, c'⟩ := c
      have e1 := Nat.eq_of_beq_eq_true h1
      have e2 := Nat.eq_of_beq_eq_true h2
      have e3 := dvBeq_of h3
      simp only at e1 e2 e3
      rw [e1, e2, e3]
      exact List.mem_cons_self ..
    · exact List.mem_cons_of_mem _ (callC_of h)
def strsEq : List Str → List Str → Bool
  | [], [] => true
  | a :: as, b :: bs => strEq a b && strsEq as bs
  | _, _ => false
theorem strsEq_of : ∀ {a b : List Str}, strsEq a b = true → a = b
  | [], [], _ => rfl
  | [], _ :: _, h => by cases h
  | _ :: _, [], h => by cases h
  | a :: as, b :: bs, h => by
    simp only [strsEq, Bool.and_eq_true] at h
    rw [strEq_iff.mp h.1, strsEq_of h.2]
def kcallC (f n : Nat) (ks : List Str) (pm : List Nat) : List (Nat × Nat × List Str × List Nat) → Bool
  | [] => false
  | c :: cs => (Nat.beq c.1 f && (Nat.beq c.2.1 n && (strsEq c.2.2.1 ks && natsEq c.2.2.2 pm))) || kcallC f n ks pm cs
theorem kcallC_of {f n : Nat} {ks : List Str} {pm : List Nat} : ∀ {cs : List (Nat × Nat × List Str × List Nat)}, kcallC f n ks pm cs = true → (f, n, ks, pm) ∈ cs
  | [], h => by cases h
  | c :: cs, h => by
    simp only [kcallC, Bool.or_eq_true, Bool.and_eq_true] at h
    rcases h with ⟨h1, h2, h3, h4⟩ | h
    · obtain ⟨a, b, c', d⟩ := c
      have e1 := Nat.eq_of_beq_eq_true h1
      have e2 := Nat.eq_of_beq_eq_true h2
      have e3 := strsEq_of h3
      have e4 := natsEq_iff.mp h4
      simp only at e1 e2 e3 e4
      rw [e1, e2, e3, e4]
      exact List.mem_cons_self ..
    · exact List.mem_cons_of_mem _ (kcallC_of h)
def ownP (N : List Str) (own : List Nat) : List (Str × Nat) := own.map fun i => ((N[i]?).getD ⟨#[]⟩, i)
theorem ownP_snd (N : List Str) (own : List Nat) : (ownP N own).map (·.2) = own := by
  unfold ownP
  rw [List.map_map]
  induction own with
  | nil => rfl
  | cons a r ih => rw [List.map_cons, ih]; rfl
def allIn (a b : List Nat) : Bool := a.all fun i => b.any fun j => Nat.beq i j
theorem allIn_of {a b : List Nat} (h : allIn a b = true) : ∀ i ∈ a, i ∈ b := by
  unfold allIn at h
  rw [List.all_eq_true] at h
  intro i hi
  have := h i hi
  rw [List.any_eq_true] at this
  obtain ⟨j, hj, e⟩ := this
  rw [Nat.eq_of_beq_eq_true e]
  exact hj
def lenIs {α : Type} : List α → Nat → Bool
  | [], 0 => true
  | _ :: r, n + 1 => lenIs r n
  | _, _ => false
theorem lenIs_of {α : Type} : ∀ {l : List α} {n : Nat}, lenIs l n = true → l.length = n
  | [], 0, _ => rfl
  | [], _ + 1, h => by cases h
  | _ :: _, 0, h => by cases h
  | _ :: r, n + 1, h => by rw [List.length_cons, lenIs_of (l := r) h]
section
variable (Γ : Gam)
mutual
def chkE : E → Scope → Expr → Bool
  | .bad, _, _ => true
  | .non, _, .Constant .none _ _ => true
  | .bl b, _, .Constant (.bool c) _ _ => b == c
  | .int i, _, .Constant (.int j) _ _ => decide (i = j)
  | .str s, _, .Constant (.str x) _ _ => natsEq s x.cps.toList
  | .var i, sc, .Name x _ => atN Γ.N i x && visC sc x
  | .glo i, sc, .Name x _ => atN Γ.G i x && gloC sc x
  | .bin o a b, sc, .BinOp x p y _ => opC o p && (chkE a sc x && chkE b sc y)
  | .neg a, sc, .UnaryOp .USub x _ => chkE a sc x
  | .not a, sc, .UnaryOp .Not x _ => chkE a sc x
  | .and a b, sc, .BoolOp .And (x :: y :: ys) p => chkE a sc x && (match ys with
    | [] => chkE b sc y
    | _ => chkE b sc (.BoolOp .And (y :: ys) p))
  | .or a b, sc, .BoolOp .Or (x :: y :: ys) p => chkE a sc x && (match ys with
    | [] => chkE b sc y
    | _ => chkE b sc (.BoolOp .Or (y :: ys) p))
  | .cmp c a b, sc, .Compare x [p] [y] _ => cmC c p && (okX y && (chkE a sc x && chkE b sc y))
  | .chn c d a b e, sc, .Compare x [p, q] [y, z] _ => cmC c p && (cmC d q && (okX y && (okX z && (chkE a sc x && (chkE b sc y && chkE e sc z)))))
  | .ite c a b, sc, .IfExp x y z _ => chkT c sc x && (chkE a sc y && chkE b sc z)
  | .lst es, sc, .List xs _ => chkA es sc xs
  | .tup es, sc, .Tuple xs _ _ => chkA es sc xs
  | .sub a b, sc, .Subscript x y _ => okX y && (chkE a sc x && chkE b sc y)
  | .cut a lo hi, sc, .Subscript x (.Slice l h none _) _ => chkE a sc x && ((match l with
    | none => isBad lo
    | some y => !isBad lo && chkE lo sc y) && (match h with
    | none => isBad hi
    | some y => !isBad hi && chkE hi sc y))
  | .call f es dv, sc, .Call (.Name x _) xs [] _ => atF Γ.F f x && (gloC sc x && (callC f es.len dv Γ.calls && chkA es sc xs))
  | .callK f es ks pm, sc, .Call (.Name x _) ys kws _ => atF Γ.F f x && (gloC sc x && (kcallC f es.len (kwNames kws) pm Γ.kcalls && (lenIs (kwNames kws) ks.len && (kwAll kws && (chkA es sc ys && chkK ks sc kws)))))
  | .bi b es, sc, .Call (.Name x _) (y :: ys) [] _ => strEq x (biNm b) && (gloC sc x && chkA es sc (y :: ys))
  | .isi a ts one, sc, .Call (.Name x _) [y, z] [] _ => strEq x "isinstance" && (gloC sc x && (okX y && (chkE a sc y && (match one with
    | true => lenIs ts 1 && tysC sc ts [z]
    | false => match z with
      | .Tuple zs _ _ => Nat.ble ts.length lineN && tysC sc ts zs
      | _ => false))))
  | .mt m a es, sc, .Call (.Attribute o n ap) xs [] p => strEq n (mtNm m) && (noCall0 o && (Nat.beq ap.endLine p.line && (chkE a sc o && (match xs with
    | [] => isNil es && !lstMt m
    | _ => lstMt m && (Nat.blt xs.length 30 && chkA es sc xs)))))
  | .lc own tg it ifs elt, sc, .ListComp el [⟨tgx, iter, cs, as⟩] scope _ => decide (as = 0) && (blkC Γ.N sc scope (ownP Γ.N own) && (allIn (slots tg) own && (okX iter && (chkI it sc tgx iter && (chkG tg (relb sc scope) scope tgx && ((match cs with
    | [] => isYes ifs
    | [c] => chkT ifs (relb sc scope) c
    | _ => false) && chkE elt (relb sc scope) el))))))
  | .dict0, _, .Dict [] [] _ => true
  | .lrg es, sc, .Call (.Name x _) [.Call (.Name y _) xs [] _] [] _ => strEq x "list" && (strEq y "range" && (gloC sc x && (gloC sc y && ((lenIs xs 1 || lenIs xs 2) && chkA es sc xs))))
  | _, _, _ => false
termination_by structural x => x
def chkT : Tt → Scope → Expr → Bool
  | .not t, sc, .UnaryOp .Not x _ => chkT t sc x
  | .and a b, sc, .BoolOp .And (x :: y :: ys) p => chkT a sc x && (match ys with
    | [] => chkT b sc y
    | _ => chkT b sc (.BoolOp .And (y :: ys) p))
  | .or a b, sc, .BoolOp .Or (x :: y :: ys) p => chkT a sc x && (match ys with
    | [] => chkT b sc y
    | _ => chkT b sc (.BoolOp .Or (y :: ys) p))
  | .cmp c a b, sc, .Compare x [p] [y] _ => cmC c p && (okX y && (chkE a sc x && chkE b sc y))
  | .chn c d a b e, sc, .Compare x [p, q] [y, z] _ => cmC c p && (cmC d q && (okX y && (okX z && (chkE a sc x && (chkE b sc y && chkE e sc z)))))
  | .val e, sc, x => plainT x && chkE e sc x
  | _, _, _ => false
termination_by structural x => x
def chkA : Es → Scope → List Expr → Bool
  | .nil, _, [] => true
  | .cons e r, sc, x :: xs => okX x && (chkE e sc x && chkA r sc xs)
  | _, _, _ => false
termination_by structural x => x
def chkK : Es → Scope → List Keyword → Bool
  | .nil, _, [] => true
  | .cons e r, sc, ⟨_, x, _⟩ :: xs => chkE e sc x && chkK r sc xs
  | _, _, _ => false
termination_by structural x => x
def chkG : Tg → Scope → Scope → Expr → Bool
  | .name i, _, own, .Name x _ => atN Γ.N i x && locC own x
  | .tup ts, sc, own, .Tuple xs _ _ => chkGs ts sc own xs
  | .sub a b, sc, _, .Subscript x y _ => okX y && (chkE a sc x && chkE b sc y)
  | _, _, _, _ => false
termination_by structural x => x
def chkGs : Tgs → Scope → Scope → List Expr → Bool
  | .nil, _, _, [] => true
  | .cons t r, sc, own, x :: xs => okX x && (chkG t sc own x && chkGs r sc own xs)
  | _, _, _, _ => false
termination_by structural x => x
def chkI : MP.It → Scope → Expr → Expr → Bool
  | .seq e, sc, _, x => chkE e sc x
  | .rng es, sc, _, .Call (.Name x _) xs [] _ => strEq x "range" && (gloC sc x && ((lenIs xs 1 || lenIs xs 2) && chkA es sc xs))
  | .enum e, sc, .Tuple _ _ _, .Call (.Name x _) [y] [] _ => strEq x "enumerate" && (gloC sc x && (okX y && chkE e sc y))
  | .zip a b, sc, .Tuple _ _ _, .Call (.Name x _) [y, z] [] _ => strEq x "zip" && (gloC sc x && (okX y && (okX z && (chkE a sc y && chkE b sc z))))
  | _, _, _, _ => false
termination_by structural x => x
end
end
end MP
namespace MP
open PySem PySem.Spec PyProof.Rows L2
theorem and2 {a b : Bool} (h : (a && b) = true) : a = true ∧ b = true := by
  rw [Bool.and_eq_true] at h
  exact h
theorem chkA_all {Γ : Gam} {sc : Scope} : ∀ {es : Es} {xs : List Expr}, chkA Γ es sc xs = true → xs.all okX = true ∧ es.len = xs.length
  | .nil, [], _ => ⟨rfl, rfl⟩
  | .nil, _ :: _, h => by cases h
  | .cons e r, [], h => by cases h
  | .cons e r, x :: xs, h => by
    have h : (okX x && (chkE Γ e sc x && chkA Γ r sc xs)) = true := h
    obtain ⟨h1, h2⟩ := and2 h
    obtain ⟨h3, h4⟩ := and2 h2
    obtain ⟨h5, h6⟩ := chkA_all h4
    refine ⟨by rw [List.all_cons, h1, h5]; rfl, ?_⟩
    rw [List.length_cons, ← h6]
    rfl
theorem chkGs_all {Γ : Gam} {sc own : Scope} : ∀ {es : Tgs} {xs : List Expr}, chkGs Γ es sc own xs = true → xs.all okX = true ∧ es.len = xs.length
  | .nil, [], _ => ⟨rfl, rfl⟩
  | .nil, _ :: _, h => by cases h
  | .cons e r, [], h => by cases h
  | .cons e r, x :: xs, h => by
    have h : (okX x && (chkG Γ e sc own x && chkGs Γ r sc own xs)) = true := h
    obtain ⟨h1, h2⟩ := and2 h
    obtain ⟨h3, h4⟩ := and2 h2
    obtain ⟨h5, h6⟩ := chkGs_all h4
    refine ⟨by rw [List.all_cons, h1, h5]; rfl, ?_⟩
    rw [List.length_cons, ← h6]
    rfl
section
variable {Γ : Gam} {k : Nat} {cl : Nat → List Vl → Sto → R Vl} {A : Nat → Addr}
mutual
theorem okE : ∀ (i : E) {X : Cx} {sc : Scope} {W : XK} {x : Expr}, XOk X Γ sc k cl A W → chkE Γ i sc x = true → PE X x (dE X.K A cl W i)
  | .bad, X, sc, W, x, C, h => ⟨fun pins s σ H Q I ⟨φ, S, ρ, r, en, p⟩ => False.elim p⟩
  | .non, X, sc, W, x, C, h => by
    cases x with
    | Constant c n p => cases c <;> first | exact f_val pe_non (fun _ _ => rfl) (fun _ => rfl) | cases h
    | _ => cases h
  | .bl b, X, sc, W, x, C, h => by
    cases x with
    | Constant c n p =>
      cases c with
      | bool d =>
        have e : b = d := by simpa [chkE] using h
        subst e
        exact f_val pe_bl (fun _ _ => rfl) (fun _ => rfl)
      | _ => cases h
    | _ => cases h
  | .int j, X, sc, W, x, C, h => by
    cases x with
    | Constant c n p =>
      cases c with
      | int d =>
        have e : j = d := of_decide_eq_true h
        subst e
        exact f_val pe_int (fun _ _ => rfl) (fun _ => rfl)
      | _ => cases h
    | _ => cases h
  | .str s, X, sc, W, x, C, h => by
    cases x with
    | Constant c n p =>
      cases c with
      | str d =>
        have e : s = d.cps.toList := natsEq_iff.mp h
        subst e
        exact f_val (v := .str ⟨d.cps.toList.toArray⟩) pe_str (fun _ _ => rfl) (fun _ => rfl)
      | _ => cases h
    | _ => cases h
  | .var j, X, sc, W, x, C, h => by
    cases x with
    | Name n p =>
      obtain ⟨h1, h2⟩ := and2 h
      exact f_var C (atN_of h1) (visC_of h2)
    | _ => cases h
  | .glo j, X, sc, W, x, C, h => by
    cases x with
    | Name n p =>
      obtain ⟨h1, h2⟩ := and2 h
      exact f_glo C (atN_of h1) (gloC_of h2)
    | _ => cases h
  | .bin o a b, X, sc, W, x, C, h => by
    cases x with
    | BinOp y q z p =>
      obtain ⟨h1, h2⟩ := and2 h
      obtain ⟨h3, h4⟩ := and2 h2
      have e := opC_of h1
      subst e
      exact f_bin (okE a C h3) (okE b C h4)
    | _ => cases h
  | .neg a, X, sc, W, x, C, h => by
    cases x with
    | UnaryOp q y p =>
      cases q <;> first | exact f_neg (okE a C h) | cases h
    | _ => cases h
  | .not a, X, sc, W, x, C, h => by
    cases x with
    | UnaryOp q y p =>
      cases q <;> first | exact f_not (okE a C h) | cases h
    | _ => cases h
  | .and a b, X, sc, W, x, C, h => by
    cases x with
    | BoolOp q xs p =>
      cases q with
      | Or => cases h
      | And =>
        match xs, h with
        | x :: y :: ys, h =>
          obtain ⟨h1, h2⟩ := and2 h
          refine f_and (okE a C h1) ?_
          cases ys with
          | nil => exact pe_one (okE b C h2)
          | cons z zs => exact okE b C h2
    | _ => cases h
  | .or a b, X, sc, W, x, C, h => by
    cases x with
    | BoolOp q xs p =>
      cases q with
      | And => cases h
      | Or =>
        match xs, h with
        | x :: y :: ys, h =>
          obtain ⟨h1, h2⟩ := and2 h
          refine f_or (okE a C h1) ?_
          cases ys with
          | nil => exact pe_one (okE b C h2)
          | cons z zs => exact okE b C h2
    | _ => cases h
  | .cmp c a b, X, sc, W, x, C, h => by
    cases x with
    | Compare y ps ys p =>
      match ps, ys, h with
      | [q], [z], h =>
        obtain ⟨h1, h2⟩ := and2 h
        obtain ⟨h3, h4⟩ := and2 h2
        obtain ⟨h5, h6⟩ := and2 h4
        have e := cmC_of h1
        subst e
        exact f_cmp C h3 (okE a C h5) (okE b C h6)
    | _ => cases h
  | .chn c d a b e, X, sc, W, x, C, h => by
    cases x with
    | Compare y ps ys p =>
      match ps, ys, h with
      | [q, r], [z, w], h =>
        obtain ⟨h1, h⟩ := and2 h
        obtain ⟨h2, h⟩ := and2 h
        obtain ⟨h3, h⟩ := and2 h
        obtain ⟨h4, h⟩ := and2 h
        obtain ⟨h5, h⟩ := and2 h
        obtain ⟨h6, h7⟩ := and2 h
        have e1 := cmC_of h1
        have e2 := cmC_of h2
        subst e1 e2
        exact f_chn C h3 h4 (okE a C h5) (okE b C h6) (okE e C h7)
    | _ => cases h
  | .ite c a b, X, sc, W, x, C, h => by
    cases x with
    | IfExp y z w p =>
      obtain ⟨h1, h⟩ := and2 h
      obtain ⟨h2, h3⟩ := and2 h
      exact f_ite (okT c C h1).1 (okE a C h2) (okE b C h3)
    | _ => cases h
  | .lst es, X, sc, W, x, C, h => by
    cases x with
    | List xs p => exact f_lst (okA es C h)
    | _ => cases h
  | .tup es, X, sc, W, x, C, h => by
    cases x with
    | Tuple xs n p => exact f_tup (okA es C h)
    | _ => cases h
  | .sub a b, X, sc, W, x, C, h => by
    cases x with
    | Subscript y z p =>
      obtain ⟨h1, h⟩ := and2 h
      obtain ⟨h2, h3⟩ := and2 h
      exact f_sub h1 (okE a C h2) (okE b C h3)
    | _ => cases h
  | .cut a lo hi, X, sc, W, x, C, h => by
    cases x with
    | Subscript y z p =>
      cases z with
      | Slice l u st p2 =>
        cases st with
        | some _ => cases h
        | none =>
          obtain ⟨h1, h⟩ := and2 h
          obtain ⟨h2, h3⟩ := and2 h
          refine f_cut (okE a C h1) ?_ ?_
          · cases l with
            | none => exact fo_none h2
            | some y =>
              obtain ⟨h4, h5⟩ := and2 h2
              exact fo_some (by simpa using h4) (okE lo C h5)
          · cases u with
            | none => exact fo_none h3
            | some y =>
              obtain ⟨h4, h5⟩ := and2 h3
              exact fo_some (by simpa using h4) (okE hi C h5)
      | _ => cases h
    | _ => cases h
  | .call f es dv, X, sc, W, x, C, h => by
    cases x with
    | Call fn xs kws p =>
      cases fn with
      | Name n p2 =>
        cases kws with
        | cons _ _ => cases h
        | nil =>
          obtain ⟨h1, h⟩ := and2 h
          obtain ⟨h2, h⟩ := and2 h
          obtain ⟨h3, h4⟩ := and2 h
          obtain ⟨ps, hf⟩ := atF_of h1
          obtain ⟨h5, h6⟩ := chkA_all h4
          have hA := okA es C h4
          cases xs with
          | nil =>
            cases es with
            | nil => exact f_call0 C hf (gloC_of h2) (callC_of h3)
            | cons _ _ => cases h4
          | cons y ys => exact f_call C hf (gloC_of h2) (callC_of h3) h5 hA
      | _ => cases h
    | _ => cases h
  | .callK f es ks pm, X, sc, W, x, C, h => by
    cases x with
    | Call fn xs kws p =>
      cases fn with
      | Name n p2 =>
        obtain ⟨h1, h⟩ := and2 h
        obtain ⟨h2, h⟩ := and2 h
        obtain ⟨h3, h⟩ := and2 h
        obtain ⟨h4, h⟩ := and2 h
        obtain ⟨h5, h⟩ := and2 h
        obtain ⟨h6, h7⟩ := and2 h
        obtain ⟨ps, hf⟩ := atF_of h1
        obtain ⟨h8, _⟩ := chkA_all h6
        have hA := okA es C h6
        have hK := okK ks C h7
        cases xs with
        | nil =>
          cases es with
          | nil => exact f_callK0 C hf (gloC_of h2) (kcallC_of h3) (lenIs_of h4).symm h5 hK
          | cons _ _ => cases h6
        | cons y ys => exact f_callK C hf (gloC_of h2) (kcallC_of h3) (lenIs_of h4).symm h5 h8 hA hK
      | _ => cases h
    | _ => cases h
  | .bi b es, X, sc, W, x, C, h => by
    cases x with
    | Call fn xs kws p =>
      cases fn with
      | Name n p2 =>
        cases xs with
        | nil => cases h
        | cons y ys =>
          cases kws with
          | cons _ _ => cases h
          | nil =>
            obtain ⟨h1, h⟩ := and2 h
            obtain ⟨h2, h3⟩ := and2 h
            have e := strEq_iff.mp h1
            subst e
            exact f_bi C (gloC_of h2) (chkA_all h3).1 (okA es C h3)
      | _ => cases h
    | _ => cases h
  | .isi a ts one, X, sc, W, x, C, h => by
    cases x with
    | Call fn xs kws p =>
      cases fn with
      | Name n p2 =>
        match xs, kws, h with
        | [y, z], [], h =>
          obtain ⟨h1, h⟩ := and2 h
          obtain ⟨h2, h⟩ := and2 h
          obtain ⟨h3, h⟩ := and2 h
          obtain ⟨h4, h5⟩ := and2 h
          have e := strEq_iff.mp h1
          subst e
          cases one with
          | true =>
            obtain ⟨h6, h7⟩ := and2 h5
            match ts, h6, h7 with
            | [t], _, h7 =>
              have T := tysC_of h7
              cases T with
              | cons t1 t2 t3 => exact f_isi1 C t1 (gloC_of h2) t2 h3 (okE a C h4)
          | false =>
            cases z with
            | Tuple zs n p3 =>
              obtain ⟨h6, h7⟩ := and2 h5
              exact f_isiT C (tysC_of h7) h6 (gloC_of h2) h3 (okE a C h4)
            | _ => cases h5
      | _ => cases h
    | _ => cases h
  | .mt m a es, X, sc, W, x, C, h => by
    cases x with
    | Call fn xs kws p =>
      cases fn with
      | Attribute o n ap =>
        cases kws with
        | cons _ _ => cases h
        | nil =>
          obtain ⟨h1, h⟩ := and2 h
          obtain ⟨h2, h⟩ := and2 h
          obtain ⟨h3, h⟩ := and2 h
          obtain ⟨h4, h5⟩ := and2 h
          have e := strEq_iff.mp h1
          subst e
          have hl : (ap.endLine == p.line) = true := by
            have := Nat.eq_of_beq_eq_true h3
            simpa using this
          cases xs with
          | nil =>
            obtain ⟨h6, h7⟩ := and2 h5
            cases es with
            | cons _ _ => cases h6
            | nil =>
              cases m with
              | pop0 => exact f_pop C h2 hl (okE a C h4)
              | bitLength => exact f_bits h2 hl (okE a C h4)
              | _ => cases h7
          | cons y ys =>
            obtain ⟨h6, h⟩ := and2 h5
            obtain ⟨h7, h8⟩ := and2 h
            refine f_mt C ?_ h2 hl (chkA_all h8).1 (Nat.le_of_ble_eq_true h7) (okE a C h4) (okA es C h8)
            cases m with
            | append => exact .inl rfl
            | insert => exact .inr (.inl rfl)
            | count => exact .inr (.inr rfl)
            | _ => cases h6
      | _ => cases h
    | _ => cases h
  | .lc own tg it ifs elt, X, sc, W, x, C, h => by
    cases x with
    | ListComp el gs scope p =>
      match gs, h with
      | [⟨tgx, iter, cs, as⟩], h =>
        obtain ⟨h1, h⟩ := and2 h
        obtain ⟨h2, h⟩ := and2 h
        obtain ⟨h3, h⟩ := and2 h
        obtain ⟨h4, h⟩ := and2 h
        obtain ⟨h5, h⟩ := and2 h
        obtain ⟨h6, h⟩ := and2 h
        obtain ⟨h7, h8⟩ := and2 h
        have e : as = 0 := of_decide_eq_true h1
        subst e
        refine (f_lc C (ownP_snd Γ.N own) (blkOk_by h2) (allIn_of h3) (okI it C h5) h4 (fun X' C' T => okG tg C' T h6) (fun X' C' => ?_) (fun X' C' => okE elt C' h8)).1
        match cs, h7 with
        | [], h7 =>
          cases ifs with
          | yes => exact ⟨fun pins s σ H Q I ⟨φ, S, ρ, r, en, p⟩ => pts_nil.run pins s σ H Q I ((show Post X'.K A (fun _ a b => a = b) φ H (.ok true S) Q WF from p).now r rfl)⟩
          | _ => cases h7
        | [c], h7 => exact pts_one (okT ifs C' h7).1
    | _ => cases h
  | .dict0, X, sc, W, x, C, h => by
    cases x with
    | Dict ks vs p =>
      match ks, vs, h with
      | [], [], _ => exact f_dict0
    | _ => cases h
  | .lrg (.cons a .nil), X, sc, W, x, C, h => by
    cases x with
    | Call fn xs kws p =>
      match fn, xs, kws, h with
      | .Name n p2, [.Call (.Name n2 p3) ys [] p4], [], h =>
        obtain ⟨h1, h⟩ := and2 h
        obtain ⟨h2, h⟩ := and2 h
        obtain ⟨h3, h⟩ := and2 h
        obtain ⟨h4, h⟩ := and2 h
        obtain ⟨h5, h6⟩ := and2 h
        have e1 := strEq_iff.mp h1
        have e2 := strEq_iff.mp h2
        subst e1 e2
        obtain ⟨h7, h8⟩ := chkA_all h6
        match ys, h6, h7, h8 with
        | [y], h6, h7, _ =>
          have h6 : (okX y && (chkE Γ a sc y && chkA Γ .nil sc [])) = true := h6
          exact f_lrg C (.inl rfl) (gloC_of h3) (gloC_of h4) h7 (fun _ => ⟨a, y, rfl, rfl, okE a C (and2 (and2 h6).2).1⟩) (fun e => by cases e)
    | _ => cases h
  | .lrg (.cons a (.cons b .nil)), X, sc, W, x, C, h => by
    cases x with
    | Call fn xs kws p =>
      match fn, xs, kws, h with
      | .Name n p2, [.Call (.Name n2 p3) ys [] p4], [], h =>
        obtain ⟨h1, h⟩ := and2 h
        obtain ⟨h2, h⟩ := and2 h
        obtain ⟨h3, h⟩ := and2 h
        obtain ⟨h4, h⟩ := and2 h
        obtain ⟨h5, h6⟩ := and2 h
        have e1 := strEq_iff.mp h1
        have e2 := strEq_iff.mp h2
        subst e1 e2
        obtain ⟨h7, h8⟩ := chkA_all h6
        match ys, h6, h7, h8 with
        | [y, z], h6, h7, _ =>
          have h6 : (okX y && (chkE Γ a sc y && (okX z && (chkE Γ b sc z && chkA Γ .nil sc [])))) = true := h6
          obtain ⟨g1, g⟩ := and2 h6
          obtain ⟨g2, g⟩ := and2 g
          obtain ⟨g3, g⟩ := and2 g
          obtain ⟨g4, g5⟩ := and2 g
          exact f_lrg C (.inr rfl) (gloC_of h3) (gloC_of h4) h7 (fun e => by cases e) (fun _ => ⟨a, y, b, z, rfl, rfl, okE a C g2, okE b C g4⟩)
    | _ => cases h
  | .lrg .nil, X, sc, W, x, C, h => by
    cases x with
    | Call fn xs kws p =>
      match fn, xs, kws, h with
      | .Name n p2, [.Call (.Name n2 p3) ys [] p4], [], h =>
        obtain ⟨h1, h⟩ := and2 h
        obtain ⟨h2, h⟩ := and2 h
        obtain ⟨h3, h⟩ := and2 h
        obtain ⟨h4, h⟩ := and2 h
        obtain ⟨h5, h6⟩ := and2 h
        cases ys with
        | nil => cases h5
        | cons _ _ => cases h6
    | _ => cases h
  | .lrg (.cons a (.cons b (.cons c r))), X, sc, W, x, C, h => by
    cases x with
    | Call fn xs kws p =>
      match fn, xs, kws, h with
      | .Name n p2, [.Call (.Name n2 p3) ys [] p4], [], h =>
        obtain ⟨h1, h⟩ := and2 h
        obtain ⟨h2, h⟩ := and2 h
        obtain ⟨h3, h⟩ := and2 h
        obtain ⟨h4, h⟩ := and2 h
        obtain ⟨h5, h6⟩ := and2 h
        obtain ⟨_, h8⟩ := chkA_all h6
        have h8 : r.len + 1 + 1 + 1 = ys.length := h8
        exfalso
        rw [Bool.or_eq_true] at h5
        rcases h5 with h5 | h5
        · rw [lenIs_of h5] at h8; omega
        · rw [lenIs_of h5] at h8; omega
    | _ => cases h
termination_by structural x => x
theorem okT : ∀ (i : Tt) {X : Cx} {sc : Scope} {W : XK} {x : Expr}, XOk X Γ sc k cl A W → chkT Γ i sc x = true → PT X x (dT X.K A cl W i) ∧ ∀ op xs p, x = .BoolOp op xs p → PW X x (dT X.K A cl W i)
  | .yes, X, sc, W, x, C, h => by cases x <;> cases h
  | .not t, X, sc, W, x, C, h => by
    cases x with
    | UnaryOp q y p =>
      cases q with
      | Not => exact ⟨ft_not (okT t C h).1, fun _ _ _ e => nomatch e⟩
      | _ => cases h
    | _ => cases h
  | .and a b, X, sc, W, x, C, h => by
    cases x with
    | BoolOp q xs p =>
      cases q with
      | Or => cases h
      | And =>
        match xs, h with
        | x :: y :: ys, h =>
          obtain ⟨h1, h2⟩ := and2 h
          have w : PW X (.BoolOp .And (x :: y :: ys) p) (dT X.K A cl W (.and a b)) := by
            refine fw_and (okT a C h1).1 ?_
            cases ys with
            | nil => exact pw_and1 (okT b C h2).1
            | cons z zs => exact (okT b C h2).2 _ _ _ rfl
          exact ⟨w.pt, fun _ _ _ _ => w⟩
    | _ => cases h
  | .or a b, X, sc, W, x, C, h => by
    cases x with
    | BoolOp q xs p =>
      cases q with
      | And => cases h
      | Or =>
        match xs, h with
        | x :: y :: ys, h =>
          obtain ⟨h1, h2⟩ := and2 h
          have w : PW X (.BoolOp .Or (x :: y :: ys) p) (dT X.K A cl W (.or a b)) := by
            refine fw_or (okT a C h1).1 ?_
            cases ys with
            | nil => exact pw_or1 (okT b C h2).1
            | cons z zs => exact (okT b C h2).2 _ _ _ rfl
          exact ⟨w.pt, fun _ _ _ _ => w⟩
    | _ => cases h
  | .cmp c a b, X, sc, W, x, C, h => by
    cases x with
    | Compare y ps ys p =>
      match ps, ys, h with
      | [q], [z], h =>
        obtain ⟨h1, h2⟩ := and2 h
        obtain ⟨h3, h4⟩ := and2 h2
        obtain ⟨h5, h6⟩ := and2 h4
        have e := cmC_of h1
        subst e
        exact ⟨ft_cmp C h3 (okE a C h5) (okE b C h6), fun _ _ _ e => nomatch e⟩
    | _ => cases h
  | .chn c d a b e, X, sc, W, x, C, h => by
    cases x with
    | Compare y ps ys p =>
      match ps, ys, h with
      | [q, r], [z, w], h =>
        obtain ⟨h1, h⟩ := and2 h
        obtain ⟨h2, h⟩ := and2 h
        obtain ⟨h3, h⟩ := and2 h
        obtain ⟨h4, h⟩ := and2 h
        obtain ⟨h5, h⟩ := and2 h
        obtain ⟨h6, h7⟩ := and2 h
        have e1 := cmC_of h1
        have e2 := cmC_of h2
        subst e1 e2
        exact ⟨ft_chn C h3 h4 (okE a C h5) (okE b C h6) (okE e C h7), fun _ _ _ e => nomatch e⟩
    | _ => cases h
  | .val e, X, sc, W, x, C, h => by
    obtain ⟨h1, h2⟩ := and2 h
    exact ⟨ft_val (okE e C h2) (plainT_of h1 _), fun _ _ _ q => by subst q; cases h1⟩
termination_by structural x => x
theorem okA : ∀ (i : Es) {X : Cx} {sc : Scope} {W : XK} {xs : List Expr}, XOk X Γ sc k cl A W → chkA Γ i sc xs = true → PA X xs (dA X.K A cl W i)
  | .nil, X, sc, W, [], C, h => fa_nil
  | .nil, X, sc, W, _ :: _, C, h => by cases h
  | .cons e r, X, sc, W, [], C, h => by cases h
  | .cons e r, X, sc, W, x :: xs, C, h => by
    obtain ⟨h1, h2⟩ := and2 h
    obtain ⟨h3, h4⟩ := and2 h2
    exact fa_cons h1 (okE e C h3) (okA r C h4)
termination_by structural x => x
theorem okK : ∀ (i : Es) {X : Cx} {sc : Scope} {W : XK} {xs : List Keyword}, XOk X Γ sc k cl A W → chkK Γ i sc xs = true → PK X xs (dA X.K A cl W i)
  | .nil, X, sc, W, [], C, h => fk_nil
  | .nil, X, sc, W, _ :: _, C, h => by cases h
  | .cons e r, X, sc, W, [], C, h => by cases h
  | .cons e r, X, sc, W, ⟨n, x, p⟩ :: xs, C, h => by
    obtain ⟨h1, h2⟩ := and2 h
    exact fk_cons (okE e C h1) (okK r C h2)
termination_by structural x => x
theorem okG : ∀ (i : Tg) {X : Cx} {sc own : Scope} {W : XK} {x : Expr}, XOk X Γ sc k cl A W → TgOk X own → chkG Γ i sc own x = true → PG X x (dG X.K A cl W i)
  | .name j, X, sc, own, W, x, C, T, h => by
    cases x with
    | Name n p =>
      obtain ⟨h1, h2⟩ := and2 h
      exact fg_name C T (atN_of h1) (locC_of h2)
    | _ => cases h
  | .tup ts, X, sc, own, W, x, C, T, h => by
    cases x with
    | Tuple xs n p => exact fg_tup C (chkGs_all h).1 (okGs ts C T h) (chkGs_all h).2
    | _ => cases h
  | .sub a b, X, sc, own, W, x, C, T, h => by
    cases x with
    | Subscript y z p =>
      obtain ⟨h1, h⟩ := and2 h
      obtain ⟨h2, h3⟩ := and2 h
      exact fg_sub h1 (okE a C h2) (okE b C h3)
    | _ => cases h
termination_by structural x => x
theorem okGs : ∀ (i : Tgs) {X : Cx} {sc own : Scope} {W : XK} {xs : List Expr}, XOk X Γ sc k cl A W → TgOk X own → chkGs Γ i sc own xs = true → PGs X xs (dGs X.K A cl W i)
  | .nil, X, sc, own, W, [], C, T, h => fgs_nil
  | .nil, X, sc, own, W, _ :: _, C, T, h => by cases h
  | .cons t r, X, sc, own, W, [], C, T, h => by cases h
  | .cons t r, X, sc, own, W, x :: xs, C, T, h => by
    obtain ⟨h1, h⟩ := and2 h
    obtain ⟨h2, h3⟩ := and2 h
    exact fgs_cons h1 (okG t C T h2) (okGs r C T h3)
termination_by structural x => x
theorem okI : ∀ (i : MP.It) {X : Cx} {sc : Scope} {W : XK} {tg x : Expr}, XOk X Γ sc k cl A W → chkI Γ i sc tg x = true → PI X tg x (dI X.K A cl W i)
  | .seq e, X, sc, W, tg, x, C, h => fi_seq (okE e C h)
  | .rng es, X, sc, W, tg, x, C, h => by
    cases x with
    | Call fn xs kws p =>
      match fn, kws, h with
      | .Name n p2, [], h =>
        obtain ⟨h1, h⟩ := and2 h
        obtain ⟨h2, h⟩ := and2 h
        obtain ⟨h3, h4⟩ := and2 h
        have e := strEq_iff.mp h1
        subst e
        obtain ⟨h5, h6⟩ := chkA_all h4
        have hA := okA es C h4
        match xs, h3, h5, h6, hA with
        | [y], _, h5, h6, hA => exact fi_rng1 C h6 (gloC_of h2) (by simpa using h5) hA
        | [y, z], _, h5, h6, hA =>
          have hk : okX y = true ∧ okX z = true := by simpa using h5
          exact fi_rng2 C h6 (gloC_of h2) hk.1 hk.2 hA
        | [], h3, _, _, _ => cases h3
        | _ :: _ :: _ :: _, h3, _, _, _ => cases h3
    | _ => cases h
  | .enum a, X, sc, W, tg, x, C, h => by
    cases tg with
    | Tuple ts n p0 =>
      cases x with
      | Call fn xs kws p =>
        match fn, xs, kws, h with
        | .Name n p2, [y], [], h =>
          obtain ⟨h1, h⟩ := and2 h
          obtain ⟨h2, h⟩ := and2 h
          obtain ⟨h3, h4⟩ := and2 h
          have e := strEq_iff.mp h1
          subst e
          exact fi_enum C (gloC_of h2) h3 (okE a C h4)
      | _ => cases h
    | _ => cases x <;> cases h
  | .zip a b, X, sc, W, tg, x, C, h => by
    cases tg with
    | Tuple ts n p0 =>
      cases x with
      | Call fn xs kws p =>
        match fn, xs, kws, h with
        | .Name n p2, [y, z], [], h =>
          obtain ⟨h1, h⟩ := and2 h
          obtain ⟨h2, h⟩ := and2 h
          obtain ⟨h3, h⟩ := and2 h
          obtain ⟨h4, h⟩ := and2 h
          obtain ⟨h5, h6⟩ := and2 h
          have e := strEq_iff.mp h1
          subst e
          exact fi_zip C (gloC_of h2) h3 h4 (okE a C h5) (okE b C h6)
      | _ => cases h
    | _ => cases x <;> cases h
termination_by structural x => x
end
end
end MP
namespace MP
open PySem PySem.Spec PyProof.Rows L2
section
variable (K : PySem.W.Frag) (A : Nat → Addr) (cl : Nat → List Vl → Sto → R Vl) (W : XK)
def PostS (φ : Loc) (H : Hp) (r : XS) (D : L2.Ends) : Prop := match r with
  | .fl (.nx ρ) S => ∀ φ' H' σ', Ext φ H φ' H' → Rep K A φ' S H' → EnvR A φ' ρ σ' → D.nx σ' H'
  | .fl (.bk ρ) S => ∀ φ' H' σ', Ext φ H φ' H' → Rep K A φ' S H' → EnvR A φ' ρ σ' → D.bk σ' H'
  | .fl (.ct ρ) S => ∀ φ' H' σ', Ext φ H φ' H' → Rep K A φ' S H' → EnvR A φ' ρ σ' → D.ct σ' H'
  | .fl (.rt v) S => ∀ φ' H' x, Ext φ H φ' H' → Rep K A φ' S H' → VR A φ' v x → D.rt x H'
  | .exc k v _ S => ∀ φ' H' x d, Ext φ H φ' H' → Rep K A φ' S H' → VR A φ' v x → H' d = some (.xd [("value", x)]) → (∀ i, φ' i ≠ some d) → W (.ref (A k)) (some d) H'
  | .bad => False
def dS (s : Sm) : TS := fun D σ H => ∃ φ S ρ, Rep K A φ S H ∧ EnvR A φ ρ σ ∧ PostS K A W φ H (ex cl s ρ S) D
def dSs (s : Ss) : TS := fun D σ H => ∃ φ S ρ, Rep K A φ S H ∧ EnvR A φ ρ σ ∧ PostS K A W φ H (exs cl s ρ S) D
end
section
variable {K : PySem.W.Frag} {A : Nat → Addr} {cl : Nat → List Vl → Sto → R Vl} {W : XK} {φ φ1 : Loc} {H H1 : Hp} {S : Sto}
theorem PostS.from {r : XS} {D : L2.Ends} (h : PostS K A W φ H r D) (e : Ext φ H φ1 H1) : PostS K A W φ1 H1 r D := by
  cases r with
  | fl f S' => cases f with
    | nx ρ => exact fun φ' H' x e' => h φ' H' x (e.trans e')
    | bk ρ => exact fun φ' H' x e' => h φ' H' x (e.trans e')
    | ct ρ => exact fun φ' H' x e' => h φ' H' x (e.trans e')
    | rt v => exact fun φ' H' x e' => h φ' H' x (e.trans e')
  | exc k v ρ S' => exact fun φ' H' x d e' => h φ' H' x d (e.trans e')
  | bad => exact h
theorem PostS.xs {ρ : MP.Env} {r : R Vl} {f : Vl → Sto → XS} {D : L2.Ends} {Q1 : VK} (h : PostS K A W φ H (r.xs ρ f) D) (k : ∀ v S1 φ1 H1 x, Ext φ H φ1 H1 → Rep K A φ1 S1 H1 → VR A φ1 v x → PostS K A W φ1 H1 (f v S1) D → Q1 x H1) : Post K A (VR A) φ H r Q1 W := by
  cases r with
  | ok v S' => exact fun φ' H' x e r l => k v S' φ' H' x e r l ((show PostS K A W φ H (f v S') D from h).from e)
  | exc k v S' => exact h
  | bad => exact h
theorem PostS.next {ρ : MP.Env} {σ : L2.St} {D : L2.Ends} (h : PostS K A W φ H (.fl (.nx ρ) S) D) (r : Rep K A φ S H) (en : EnvR A φ ρ σ) : D.nx σ H := h φ H σ Ext.refl r en
end
section
variable {X : Cx} {Γ : Gam} {sc : Scope} {k : Nat} {cl : Nat → List Vl → Sto → R Vl} {A : Nat → Addr} {W : XK} {x y z e : Expr} {pos : Pos}
theorem _root_.L2.PS.imp {s : Stmt} {t t' : TS} (h : PS X s t) (f : ∀ D σ H, t' D σ H → t D σ H) : PS X s t' := ⟨fun pins s σ H D I q => h.run pins s σ H D I (f _ _ _ q)⟩
theorem _root_.L2.PSs.imp {s : List Stmt} {t t' : TS} (h : PSs X s t) (f : ∀ D σ H, t' D σ H → t D σ H) : PSs X s t' := ⟨fun pins s σ H D I q => h.run pins s σ H D I (f _ _ _ q)⟩
theorem s_pass : PS X (.Pass pos) (dS X.K A cl W .pass) := ps_pass.imp fun D σ H ⟨φ, S, ρ, r, en, p⟩ => PostS.next p r en
theorem s_brk : PS X (.Break pos) (dS X.K A cl W .brk) := ps_break.imp fun D σ H ⟨φ, S, ρ, r, en, p⟩ => (show ∀ φ' H' σ', Ext φ H φ' H' → Rep X.K A φ' S H' → EnvR A φ' ρ σ' → D.bk σ' H' from p) φ H σ Ext.refl r en
theorem s_cnt : PS X (.Continue pos) (dS X.K A cl W .cnt) := ps_continue.imp fun D σ H ⟨φ, S, ρ, r, en, p⟩ => (show ∀ φ' H' σ', Ext φ H φ' H' → Rep X.K A φ' S H' → EnvR A φ' ρ σ' → D.ct σ' H' from p) φ H σ Ext.refl r en
theorem s_retN : PS X (.Return none pos) (dS X.K A cl W .retN) := ps_retN.imp fun D σ H ⟨φ, S, ρ, r, en, p⟩ => (show ∀ φ' H' x, Ext φ H φ' H' → Rep X.K A φ' S H' → VR A φ' .non x → D.rt x H' from p) φ H .non Ext.refl r rfl
def notLC : Expr → Bool
  | .ListComp .. => false | .SetComp .. => false | .DictComp .. => false | _ => true
theorem sw_no {e : Expr} (h : notLC e = true) (t : Option Expr) (l : Nat) (env : PySem.Env) : swapsWith e t l env = pure false := by
  cases e <;> first | rfl | cases h
def swNo (sc : Scope) (x y : Expr) : Bool := notLC y || (match y with
  | .ListComp .. => (match x with
    | .Name n _ => !lclC sc n
    | _ => true)
  | _ => false)
theorem swNo_of {x y : Expr} {env : PySem.Env} (he : env.scope = sc) (h : swNo sc x y = true) (l : Nat) : swapsWith y (some x) l env = pure false := by
  unfold swNo at h
  rw [Bool.or_eq_true] at h
  rcases h with h | h
  · exact sw_no h _ _ _
  · cases y with
    | ListComp el gs scope p =>
      cases x with
      | Name n py =>
        have h : (!lclC sc n) = true := h
        have k : (env.kindOf n == some .local) = false := by
          have e : env.kindOf n = sc.names.lookup n := by rw [← he]; rfl
          rw [e, ← lk_eq]
          unfold lclC at h
          cases q : lk sc.names n with
          | none => rfl
          | some z => rw [q] at h; cases z <;> first | rfl | cases h
        show (pure (env.blockKind == .function && env.kindOf n == some .local && py.line == p.line && !(scope.names.any fun (m, k) => m == n && (k == .local || k == .cell))) : Sem Bool) = pure false
        rw [k]
        simp
      | _ => rfl
    | _ => cases h
theorem s_expr {a : E} (hk : notLC x = true) (ha : PE X x (dE X.K A cl W a)) : PS X (.Expr x pos) (dS X.K A cl W (.expr a)) :=
  (ps_expr ha (sw_no hk _ _ _)).imp fun D σ H ⟨φ, S, ρ, r, en, p⟩ => ⟨φ, S, ρ, r, en, PostS.xs p fun v S1 φ1 H1 x e1 r1 l1 p1 => PostS.next p1 r1 (en.ext e1.le)⟩
theorem s_ret {a : E} (ha : PE X x (dE X.K A cl W a)) : PS X (.Return (some x) pos) (dS X.K A cl W (.ret a)) :=
  (ps_ret ha).imp fun D σ H ⟨φ, S, ρ, r, en, p⟩ => ⟨φ, S, ρ, r, en, PostS.xs p fun v S1 φ1 H1 x e1 r1 l1 p1 => (show ∀ φ' H' x, Ext φ1 H1 φ' H' → Rep X.K A φ' S1 H' → VR A φ' v x → D.rt x H' from p1) φ1 H1 x Ext.refl r1 l1⟩
theorem s_asg {t : Tg} {a : E} (hk : swapsWith y (some x) pos.line X.env = pure false) (hw : swappedStores [x] y X.env = pure none) (hx : okX x = true) (ha : PE X y (dE X.K A cl W a)) (hg : PG X x (dG X.K A cl W t)) : PS X (.Assign [x] y pos) (dS X.K A cl W (.asg t a)) :=
  (ps_asg ha hg hk hw (by rw [asgE_ok hx]; rfl)).imp fun D σ H ⟨φ, S, ρ, r, en, p⟩ => ⟨φ, S, ρ, r, en, PostS.xs p fun v S1 φ1 H1 x e1 r1 l1 p1 => ⟨φ1, S1, ρ, v, r1, en.ext e1.le, l1, by
    cases q : asn cl t v ρ S1 with
    | bad => rw [q] at p1; exact False.elim p1
    | exc k1 v1 S2 => rw [q] at p1; exact False.elim p1
    | ok ρ2 S2 =>
      rw [q] at p1
      exact fun φ2 H2 σ2 e2 r2 l2 => (show ∀ φ' H' σ', Ext φ1 H1 φ' H' → Rep X.K A φ' S2 H' → EnvR A φ' ρ2 σ' → D.nx σ' H' from p1) φ2 H2 σ2 e2 r2 l2.1⟩⟩
/-- a name bound to a list comprehension on one line -/
theorem s_asgL {i : Nat} {n : Str} {py : Pos} {a : E} (h : PS X (.Assign [.Name n py] y pos) (fun D σ H => dE X.K A cl W a σ H fun x H1 => D.nx (σ.set i (some x)) H1)) : PS X (.Assign [.Name n py] y pos) (dS X.K A cl W (.asg (.name i) a)) :=
  h.imp fun D σ H ⟨φ, S, ρ, r, en, p⟩ => ⟨φ, S, ρ, r, en, PostS.xs p fun v S1 φ1 H1 x e1 r1 l1 p1 => PostS.next (ρ := ρ.set i (some v)) p1 r1 ((en.ext e1.le).set l1 i)⟩
theorem swap2 {env : PySem.Env} {n m : Str} {px py pt pt2 : Pos} {k1 k2 : Nat} (he : env.scope = sc) (hk : sc.kind = .function) (hx : sc.names.lookup n = some .local) (hy : sc.names.lookup m = some .local) (hl : Nat.beq py.line px.line = true) (ne : strEq m n = false)
    (ka : okX x = true) (kb : okX y = true) (nf : ([x, y].all (foldedForSure 8)) = false) (nc : ([x, y].all (constantsAlone 8)) = false) : swappedStores [.Tuple [.Name n px, .Name m py] k1 pt] (.Tuple [x, y] k2 pt2) env = pure (some [n, m]) := by
  have kx : env.kindOf n = some .local := by show env.scope.names.lookup n = _; rw [he]; exact hx
  have ky : env.kindOf m = some .local := by show env.scope.names.lookup m = _; rw [he]; exact hy
  have hb : env.blockKind = .function := by unfold Env.blockKind; rw [he, hk]; rfl
  have hl' : py.line = px.line := Nat.eq_of_beq_eq_true hl
  have hne : (m == n) = false := by rw [strEq_beq]; exact ne
  unfold swappedStores
  have e2 : [n, m].eraseDups = [n, m] := by simp [List.eraseDups_cons, hne]
  simp [hb, kx, ky, Expr.pos, hl', e2]
  simp only [List.all_cons, List.all_nil, Bool.and_true] at nf nc
  cases h1 : foldedForSure 8 x <;> cases h2 : foldedForSure 8 y <;> cases h3 : constantsAlone 8 x <;> cases h4 : constantsAlone 8 y <;> (rw [h1, h2] at nf; rw [h3, h4] at nc) <;> first | (cases nf; done) | (cases nc; done) | skip
  all_goals
    simp [h1, h2, h3, h4]
    intro h
    exfalso
    rcases h with h | h
    · cases x <;> first | (cases ka; done) | (cases h; done)
    · cases y <;> first | (cases kb; done) | (cases h; done)
theorem s_par (C : XOk X Γ sc k cl A W) {i j : Nat} {n m : Str} {px py pt pt2 : Pos} {k1 k2 : Nat} {a b : E} (hk : sc.kind = .function) (hi : Γ.N[i]? = some n) (hj : Γ.N[j]? = some m) (hx : sc.names.lookup n = some .local) (hy : sc.names.lookup m = some .local) (hl : Nat.beq py.line px.line = true) (ne : strEq m n = false)
    (ka : okX x = true) (kb : okX y = true) (nf : ([x, y].all (foldedForSure 8)) = false) (nc : ([x, y].all (constantsAlone 8)) = false) (ha : PE X x (dE X.K A cl W a)) (hb : PE X y (dE X.K A cl W b)) :
    PS X (.Assign [.Tuple [.Name n px, .Name m py] k1 pt] (.Tuple [x, y] k2 pt2) pos) (dS X.K A cl W (.par i j a b)) := by
  have hij : i ≠ j := fun e => by
    subst e
    rw [hi] at hj
    cases hj
    rw [strEq_iff.mpr rfl] at ne
    cases ne
  refine (ps_par (i := i) (j := j) C.calm (by rw [C.N]; exact C.nd) (by rw [C.N]; exact hi) (by rw [C.N]; exact hj) hij (by rw [C.sc]; exact hx) (by rw [C.sc]; exact hy) (PA.all ka ha (PA.all kb hb pa_nil)) (swap2 C.sc hk hx hy hl ne ka kb nf nc)).imp fun D σ H ⟨φ, S, ρ, r, en, p⟩ => ⟨φ, S, ρ, r, en, ?_⟩
  have p : PostS X.K A W φ H ((ev cl a ρ S).xs ρ fun v S1 => (ev cl b ρ S1).xs ρ fun w S2 => .fl (.nx ((ρ.set i (some v)).set j (some w))) S2) D := p
  refine PostS.xs p fun v S1 φ1 H1 x e1 r1 l1 p1 => ⟨φ1, S1, ρ, r1, en.ext e1.le, PostS.xs p1 fun w S2 φ2 H2 y e2 r2 l2 p2 => ⟨x, y, rfl, PostS.next p2 r2 ((((en.ext e1.le).ext e2.le).set (l1.ext e2.le) i).set l2 j)⟩⟩
theorem s_ite {c : Tt} {a b : Ss} {xs ys : List Stmt} (hc : PT X x (dT X.K A cl W c)) (ha : PSs X xs (dSs X.K A cl W a)) (hb : PSs X ys (dSs X.K A cl W b)) : PS X (.If x xs ys pos) (dS X.K A cl W (.ite c a b)) :=
  (ps_if hc ha hb).imp fun D σ H ⟨φ, S, ρ, r, en, p⟩ => ⟨φ, S, ρ, r, en, by
    have p : PostS X.K A W φ H (match tst cl c ρ S with
      | .ok true S1 => exs cl a ρ S1
      | .ok false S1 => exs cl b ρ S1
      | .exc k v S => .exc k v ρ S
      | .bad => .bad) D := p
    cases q : tst cl c ρ S with
    | bad => rw [q] at p; exact False.elim p
    | exc k1 v1 S1 => rw [q] at p; exact p
    | ok t S1 =>
      rw [q] at p
      intro φ1 H1 t' e1 r1 l1
      subst l1
      cases t with
      | true => exact ⟨φ1, S1, ρ, r1, en.ext e1.le, PostS.from p e1⟩
      | false => exact ⟨φ1, S1, ρ, r1, en.ext e1.le, PostS.from p e1⟩⟩
theorem ss_nil : PSs X [] (dSs X.K A cl W .nil) := pss_nil.imp fun D σ H ⟨φ, S, ρ, r, en, p⟩ => PostS.next p r en
theorem ss_cons {s : Sm} {b : Ss} {st : Stmt} {rest : List Stmt} (h1 : PS X st (dS X.K A cl W s)) (h2 : PSs X rest (dSs X.K A cl W b)) : PSs X (st :: rest) (dSs X.K A cl W (.cons s b)) :=
  (pss_cons h1 h2).imp fun D σ H ⟨φ, S, ρ, r, en, p⟩ => ⟨φ, S, ρ, r, en, by
    have p : PostS X.K A W φ H (match ex cl s ρ S with
      | .fl (.nx ρ1) S1 => exs cl b ρ1 S1
      | x => x) D := p
    cases q : ex cl s ρ S with
    | bad => rw [q] at p; exact False.elim p
    | exc k1 v1 ρ1 S1 => rw [q] at p; exact p
    | fl f S1 =>
      rw [q] at p
      cases f with
      | nx ρ1 => exact fun φ1 H1 σ1 e1 r1 en1 => ⟨φ1, S1, ρ1, r1, en1, PostS.from p e1⟩
      | bk ρ1 => exact p
      | ct ρ1 => exact p
      | rt v => exact p⟩
theorem for_eq (as : Vl → MP.Env → Sto → R MP.Env) (bd : MP.Env → Sto → XS) (J : MP.Itr) (f i : Nat) (ρ : MP.Env) (S : Sto) : forLoop as bd J (f + 1) i ρ S = match next J i S with
    | none => .bad
    | some none => .fl (.nx ρ) S
    | some (some (v, S1)) => match as v ρ S1 with
      | .ok ρ1 S2 => match bd ρ1 S2 with
        | .fl (.nx ρ2) S3 => forLoop as bd J f (i + 1) ρ2 S3
        | .fl (.ct ρ2) S3 => forLoop as bd J f (i + 1) ρ2 S3
        | .fl (.bk ρ2) S3 => .fl (.nx ρ2) S3
        | .fl (.rt v) S3 => .fl (.rt v) S3
        | .exc k v ρ S => .exc k v ρ S
        | .bad => .bad
      | _ => .bad := rfl
theorem whl_eq (tt : MP.Env → Sto → R Bool) (bd : MP.Env → Sto → XS) (f : Nat) (ρ : MP.Env) (S : Sto) : whlLoop tt bd (f + 1) ρ S = match tt ρ S with
    | .ok true S1 => match bd ρ S1 with
      | .fl (.nx ρ2) S3 => whlLoop tt bd f ρ2 S3
      | .fl (.ct ρ2) S3 => whlLoop tt bd f ρ2 S3
      | .fl (.bk ρ2) S3 => .fl (.nx ρ2) S3
      | .fl (.rt v) S3 => .fl (.rt v) S3
      | .exc k v ρ S => .exc k v ρ S
      | .bad => .bad
    | .ok false S1 => .fl (.nx ρ) S1
    | .exc k v S => .exc k v ρ S
    | .bad => .bad := rfl
theorem s_for (C : XOk X Γ sc k cl A W) (hp : PassesOwn (model X.prog X.w) X.A X.env X.xe) {t : Tg} {it : MP.It} {b : Ss} {tgx iter : Expr} {body : List Stmt} (hf : okX iter = true) (hi : PI X tgx iter (dI X.K A cl W it)) (hg : PG X tgx (dG X.K A cl W t)) (hb : PSs X body (dSs X.K A cl W b)) :
    PS X (.For tgx iter body [] pos) (dS X.K A cl W (.forr t it b)) := by
  refine (ps_for hp C.calm hi hg hb (fold_ok hf X.env)).imp fun D σ H ⟨φ, S, ρ, r, en, p⟩ => ⟨φ, S, ρ, r, en, ?_⟩
  have p : PostS X.K A W φ H (match itr cl it ρ S with
    | .ok J S1 => forLoop (fun v ρ' S' => asn cl t v ρ' S') (fun ρ' S' => exs cl b ρ' S') J LF 0 ρ S1
    | .exc k v S => .exc k v ρ S
    | .bad => .bad) D := p
  cases q : itr cl it ρ S with
  | bad => rw [q] at p; exact False.elim p
  | exc k1 v1 S1 => rw [q] at p; exact p
  | ok Jt S1 =>
    rw [q] at p
    dsimp only at p
    intro φ1 H1 J e1 r1 l1
    have p1 := PostS.from p e1
    refine ⟨fun i m σc Hc => ∃ φc Sc ρc, Rep X.K A φc Sc Hc ∧ EnvR A φc ρc σc ∧ (∀ n a, φ1 n = some a → φc n = some a) ∧ PostS X.K A W φc Hc (forLoop (fun v ρ' S' => asn cl t v ρ' S') (fun ρ' S' => exs cl b ρ' S') Jt m i ρc Sc) D, ⟨LF, φ1, S1, ρ, r1, en.ext e1.le, fun _ _ h => h, p1⟩, ?_⟩
    rintro i m σc Hc ⟨φc, Sc, ρc, rc, enc, le, pc⟩
    cases m with
    | zero => exact False.elim pc
    | succ m =>
      rw [for_eq] at pc
      have hJ := l1 φc Sc Hc i le rc
      cases q2 : next Jt i Sc with
      | none => rw [q2] at pc; exact False.elim pc
      | some o =>
        cases o with
        | none =>
          rw [q2] at pc hJ
          exact .inl ⟨hJ, PostS.next pc rc enc⟩
        | some vS =>
          obtain ⟨v, S2⟩ := vS
          rw [q2] at pc hJ
          obtain ⟨hgo, hy⟩ := hJ
          dsimp only at pc
          refine .inr ⟨hgo, fun σn Hn => ∃ m', m' < m + 1 ∧ ∃ φc Sc ρc, Rep X.K A φc Sc Hn ∧ EnvR A φc ρc σn ∧ (∀ n a, φ1 n = some a → φc n = some a) ∧ PostS X.K A W φc Hn (forLoop (fun v ρ' S' => asn cl t v ρ' S') (fun ρ' S' => exs cl b ρ' S') Jt m' (i + 1) ρc Sc) D, fun _ _ h => h, fun x H' hx => ?_⟩
          obtain ⟨φ2, e2, r2, l2⟩ := hy x H' hx
          refine ⟨φ2, S2, ρc, v, r2, enc.ext e2.le, l2, ?_⟩
          cases qa : asn cl t v ρc S2 with
          | bad => rw [qa] at pc; exact False.elim pc
          | exc k1 v1 S3 => rw [qa] at pc; exact False.elim pc
          | ok ρ3 S3 =>
            rw [qa] at pc
            dsimp only at pc
            intro φ3 H3 σ3 e3 r3 l3
            refine ⟨φ3, S3, ρ3, r3, l3.1, ?_⟩
            have pc := PostS.from pc (e2.trans e3)
            cases qb : exs cl b ρ3 S3 with
            | bad => rw [qb] at pc; exact False.elim pc
            | exc k1 v1 ρ4 S4 => rw [qb] at pc; exact pc
            | fl f S4 =>
              rw [qb] at pc
              cases f with
              | nx ρ4 => exact fun φ4 H4 σ4 e4 r4 en4 => ⟨m, Nat.lt_succ_self m, φ4, S4, ρ4, r4, en4, fun n a h => e4.le n a (e3.le n a (e2.le n a (le n a h))), PostS.from pc e4⟩
              | ct ρ4 => exact fun φ4 H4 σ4 e4 r4 en4 => ⟨m, Nat.lt_succ_self m, φ4, S4, ρ4, r4, en4, fun n a h => e4.le n a (e3.le n a (e2.le n a (le n a h))), PostS.from pc e4⟩
              | bk ρ4 => exact pc
              | rt w => exact pc
theorem s_whl (hp : PassesOwn (model X.prog X.w) X.A X.env X.xe) {c : Tt} {b : Ss} {body : List Stmt} (hc : PT X x (dT X.K A cl W c)) (hb : PSs X body (dSs X.K A cl W b)) : PS X (.While x body [] pos) (dS X.K A cl W (.whl c b)) := by
  refine (ps_while hp hc hb).imp fun D σ H ⟨φ, S, ρ, r, en, p⟩ => ?_
  refine ⟨fun m σc Hc => ∃ φc Sc ρc, Rep X.K A φc Sc Hc ∧ EnvR A φc ρc σc ∧ PostS X.K A W φc Hc (whlLoop (fun ρ' S' => tst cl c ρ' S') (fun ρ' S' => exs cl b ρ' S') m ρc Sc) D, ⟨LF, φ, S, ρ, r, en, p⟩, ?_⟩
  rintro m σc Hc ⟨φc, Sc, ρc, rc, enc, pc⟩
  cases m with
  | zero => exact False.elim pc
  | succ m =>
    rw [whl_eq] at pc
    refine ⟨φc, Sc, ρc, rc, enc, ?_⟩
    cases qt : tst cl c ρc Sc with
    | bad => rw [qt] at pc; exact False.elim pc
    | exc k1 v1 S1 => rw [qt] at pc; exact pc
    | ok t S1 =>
      rw [qt] at pc
      intro φ1 H1 t' e1 r1 l1
      subst l1
      cases t with
      | false => exact PostS.next (PostS.from pc e1) r1 (enc.ext e1.le)
      | true =>
        dsimp only at pc
        rw [if_pos rfl]
        refine ⟨fun σn Hn => ∃ m', m' < m + 1 ∧ ∃ φc Sc ρc, Rep X.K A φc Sc Hn ∧ EnvR A φc ρc σn ∧ PostS X.K A W φc Hn (whlLoop (fun ρ' S' => tst cl c ρ' S') (fun ρ' S' => exs cl b ρ' S') m' ρc Sc) D, fun _ _ h => h, φ1, S1, ρc, r1, enc.ext e1.le, ?_⟩
        have pc := PostS.from pc e1
        cases qb : exs cl b ρc S1 with
        | bad => rw [qb] at pc; exact False.elim pc
        | exc k1 v1 ρ4 S4 => rw [qb] at pc; exact pc
        | fl f S4 =>
          rw [qb] at pc
          cases f with
          | nx ρ4 => exact fun φ4 H4 σ4 e4 r4 en4 => ⟨m, Nat.lt_succ_self m, φ4, S4, ρ4, r4, en4, PostS.from pc e4⟩
          | ct ρ4 => exact fun φ4 H4 σ4 e4 r4 en4 => ⟨m, Nat.lt_succ_self m, φ4, S4, ρ4, r4, en4, PostS.from pc e4⟩
          | bk ρ4 => exact pc
          | rt w => exact pc
end
def notLoc (sc : Scope) : Expr → Bool
  | .Name n _ => !lclC sc n
  | _ => true
theorem fm_lt {α β : Type} {g : α → Option β} : ∀ {l : List α}, (∃ x ∈ l, g x = none) → (l.filterMap g).length < l.length
  | [], ⟨_, h, _⟩ => (List.not_mem_nil h).elim
  | a :: l, ⟨x, h, e⟩ => by
    rw [List.filterMap_cons]
    have le : (l.filterMap g).length ≤ l.length := List.length_filterMap_le g l
    rcases List.mem_cons.mp h with z | z
    · subst z
      rw [e]
      exact Nat.lt_succ_of_le le
    · have ih := fm_lt (g := g) ⟨x, z, e⟩
      cases g a with
      | none => exact Nat.lt_succ_of_lt ih
      | some b => exact Nat.succ_lt_succ ih
theorem swT_of {sc : Scope} {ts vs : List Expr} {k1 k2 : Nat} {p1 p2 : Pos} {env : PySem.Env} (he : env.scope = sc) (h : ts.any (notLoc sc) = true) : swappedStores [.Tuple ts k1 p1] (.Tuple vs k2 p2) env = pure none := by
  unfold swappedStores
  have hl : ∀ l : Nat, ((ts.filterMap fun
    | .Name id pos => if env.kindOf id == some .local && pos.line == l then some id else none
    | _ => none).length != ts.length) = true := fun l => by
    rw [List.any_eq_true] at h
    obtain ⟨x, hx, hn⟩ := h
    have := fm_lt (g := fun
      | .Name id pos => if env.kindOf id == some .local && pos.line == l then some id else none
      | _ => none) ⟨x, hx, (by
        cases x with
        | Name n py =>
          have hn : (!lclC sc n) = true := hn
          have k : (env.kindOf n == some .local) = false := by
            have e : env.kindOf n = sc.names.lookup n := by rw [← he]; rfl
            rw [e, ← lk_eq]
            unfold lclC at hn
            cases q : lk sc.names n with
            | none => rfl
            | some z => rw [q] at hn; cases z <;> first | rfl | cases hn
          dsimp only
          rw [k]
          simp
        | _ => rfl)⟩
    simp only [bne_iff_ne, ne_eq]
    omega
  dsimp only [pure_bind, bind_pure]
  split
  · rfl
  · split
    · rfl
    · have := hl ((ts.head?.map (·.pos.line)).getD 0)
      split
      · rfl
      · rename_i hh
        exfalso
        apply hh
        simp only [Bool.or_eq_true]
        exact .inl this
end MP
namespace MP
open PySem PySem.Spec PyProof.Rows L2
theorem not_t {b : Bool} (h : (!b) = true) : b = false := by
  cases b <;> first | rfl | cases h
/-- no swap of the stores -/
def swOk (sc : Scope) : Expr → Expr → Bool
  | .Tuple ts _ _, .Tuple .. => ts.any (notLoc sc)
  | .List .., _ => false
  | _, _ => true
theorem swOk_of {sc : Scope} {x y : Expr} {env : PySem.Env} (he : env.scope = sc) (h : swOk sc x y = true) : swappedStores [x] y env = pure none := by
  cases x <;> first | (cases h; done) | rfl | skip
  cases y <;> first | rfl | skip
  exact swT_of he h
def lcName (sc : Scope) : Expr → Expr → Bool
  | .Name n py, .ListComp _ _ scope p => lclC sc n && (Nat.beq py.line p.line && !(scope.names.any fun (m, k) => m == n && (k == .local || k == .cell)))
  | _, _ => false
section
variable (Γ : Gam)
mutual
def chkS : Sm → Scope → Stmt → Bool
  | .bad, _, _ => true
  | .pass, _, .Pass _ => true
  | .expr a, sc, .Expr x _ => notLC x && chkE Γ a sc x
  | .asg t a, sc, .Assign [x] y _ => okX x && (chkE Γ a sc y && (chkG Γ t sc sc x && (lcName sc x y || (swNo sc x y && swOk sc x y))))
  | .par i j a b, sc, .Assign [.Tuple [.Name n px, .Name m py] _ _] (.Tuple [x, y] _ _) _ => atN Γ.N i n && (atN Γ.N j m && (lclC sc n && (lclC sc m && (Nat.beq py.line px.line && (!strEq m n && (okX x && (okX y && (!([x, y].all (foldedForSure 8)) && (!([x, y].all (constantsAlone 8)) && (chkE Γ a sc x && chkE Γ b sc y))))))))))
  | .ret a, sc, .Return (some x) _ => chkE Γ a sc x
  | .retN, _, .Return none _ => true
  | .ite c a b, sc, .If x xs ys _ => chkT Γ c sc x && (chkSs a sc xs && chkSs b sc ys)
  | .forr t it b, sc, .For tgx iter body [] _ => okX iter && (chkI Γ it sc tgx iter && (chkG Γ t sc sc tgx && chkSs b sc body))
  | .whl c b, sc, .While x body [] _ => chkT Γ c sc x && chkSs b sc body
  | .brk, _, .Break _ => true
  | .cnt, _, .Continue _ => true
  | _, _, _ => false
termination_by structural x => x
def chkSs : Ss → Scope → List Stmt → Bool
  | .nil, _, [] => true
  | .cons s r, sc, x :: xs => chkS s sc x && chkSs r sc xs
  | _, _, _ => false
termination_by structural x => x
end
end
section
variable {Γ : Gam} {k : Nat} {cl : Nat → List Vl → Sto → R Vl} {A : Nat → Addr}
theorem asg_lc {X : Cx} {sc : Scope} {W : XK} (C : XOk X Γ sc k cl A W) (hk : sc.kind = .function) {i : Nat} {a : E} {n : Str} {py pos : Pos} {y : Expr} (h : chkE Γ a sc y = true) (hg : chkG Γ (.name i) sc sc (.Name n py) = true) (hl : lcName sc (.Name n py) y = true) :
    PS X (.Assign [.Name n py] y pos) (dS X.K A cl W (.asg (.name i) a)) := by
  cases y with
  | ListComp el gs scope p =>
    obtain ⟨l1, l⟩ := and2 hl
    obtain ⟨l2, l3⟩ := and2 l
    obtain ⟨g1, g2⟩ := and2 hg
    refine s_asgL ?_
    have hsw : swapsWith (.ListComp el gs scope p) (some (.Name n py)) pos.line X.env = pure true := by
      refine sw_true (by rw [C.sc]; exact hk) (by rw [C.sc]; exact lclC_of l1) ?_ (by simpa using l3)
      have := Nat.eq_of_beq_eq_true l2
      simpa using this
    cases a with
    | bad => exact ⟨fun pins s σ H D I ⟨φ, S, ρ, r, en, p⟩ => False.elim p⟩
    | lc own tg it ifs elt =>
      match gs, h, hsw with
      | [⟨tgx, iter, cs, as⟩], h, hsw =>
        obtain ⟨h1, h⟩ := and2 h
        obtain ⟨h2, h⟩ := and2 h
        obtain ⟨h3, h⟩ := and2 h
        obtain ⟨h4, h⟩ := and2 h
        obtain ⟨h5, h⟩ := and2 h
        obtain ⟨h6, h⟩ := and2 h
        obtain ⟨h7, h8⟩ := and2 h
        have e : as = 0 := of_decide_eq_true h1
        subst e
        refine (f_lc C (ownP_snd Γ.N own) (blkOk_by h2) (allIn_of h3) (okI it C h5) h4 (fun X' C' T => okG tg C' T h6) (fun X' C' => ?_) (fun X' C' => okE elt C' h8)).2 (atN_of g1) (lclC_of l1) hsw
        match cs, h7 with
        | [], h7 =>
          cases ifs with
          | yes => exact ⟨fun pins s σ H Q I ⟨φ, S, ρ, r, en, p⟩ => pts_nil.run pins s σ H Q I ((show Post X'.K A (fun _ a b => a = b) φ H (.ok true S) Q WF from p).now r rfl)⟩
          | _ => cases h7
        | [c], h7 => exact pts_one (okT ifs C' h7).1
    | _ => cases h
  | _ => cases hl
mutual
theorem okS : ∀ (i : Sm) {X : Cx} {sc : Scope} {W : XK} {x : Stmt}, XOk X Γ sc k cl A W → TgOk X sc → sc.kind = .function → PassesOwn (model X.prog X.w) X.A X.env X.xe → chkS Γ i sc x = true → PS X x (dS X.K A cl W i)
  | .bad, X, sc, W, x, C, T, hk, hp, h => ⟨fun pins s σ H D I ⟨φ, S, ρ, r, en, p⟩ => False.elim p⟩
  | .pass, X, sc, W, x, C, T, hk, hp, h => by
    cases x with
    | Pass p => exact s_pass
    | _ => cases h
  | .brk, X, sc, W, x, C, T, hk, hp, h => by
    cases x with
    | Break p => exact s_brk
    | _ => cases h
  | .cnt, X, sc, W, x, C, T, hk, hp, h => by
    cases x with
    | Continue p => exact s_cnt
    | _ => cases h
  | .expr a, X, sc, W, x, C, T, hk, hp, h => by
    cases x with
    | Expr y p =>
      obtain ⟨h1, h2⟩ := and2 h
      exact s_expr h1 (okE a C h2)
    | _ => cases h
  | .asg t a, X, sc, W, x, C, T, hk, hp, h => by
    cases x with
    | Assign ts y p =>
      match ts, h with
      | [z], h =>
        obtain ⟨h1, h⟩ := and2 h
        obtain ⟨h2, h⟩ := and2 h
        obtain ⟨h3, h4⟩ := and2 h
        rw [Bool.or_eq_true] at h4
        rcases h4 with h4 | h4
        · cases z with
          | Name n py =>
            cases t with
            | name i => exact asg_lc C hk h2 h3 h4
            | _ => cases h3
          | _ => cases h4
        · obtain ⟨h5, h6⟩ := and2 h4
          exact s_asg (swNo_of C.sc h5 _) (swOk_of C.sc h6) h1 (okE a C h2) (okG t C T h3)
    | _ => cases h
  | .par i j a b, X, sc, W, x, C, T, hk, hp, h => by
    cases x with
    | Assign ts y p =>
      match ts, y, h with
      | [.Tuple [.Name n px, .Name m py] k1 pt], .Tuple [x, y] k2 pt2, h =>
        obtain ⟨h1, h⟩ := and2 h
        obtain ⟨h2, h⟩ := and2 h
        obtain ⟨h3, h⟩ := and2 h
        obtain ⟨h4, h⟩ := and2 h
        obtain ⟨h5, h⟩ := and2 h
        obtain ⟨h6, h⟩ := and2 h
        obtain ⟨h7, h⟩ := and2 h
        obtain ⟨h8, h⟩ := and2 h
        obtain ⟨h9, h⟩ := and2 h
        obtain ⟨h10, h⟩ := and2 h
        obtain ⟨h11, h12⟩ := and2 h
        exact s_par C hk (atN_of h1) (atN_of h2) (lclC_of h3) (lclC_of h4) h5 (by simpa using h6) h7 h8 (not_t h9) (not_t h10) (okE a C h11) (okE b C h12)
    | _ => cases h
  | .ret a, X, sc, W, x, C, T, hk, hp, h => by
    cases x with
    | Return v p =>
      cases v with
      | none => cases h
      | some y => exact s_ret (okE a C h)
    | _ => cases h
  | .retN, X, sc, W, x, C, T, hk, hp, h => by
    cases x with
    | Return v p =>
      cases v with
      | none => exact s_retN
      | some y => cases h
    | _ => cases h
  | .ite c a b, X, sc, W, x, C, T, hk, hp, h => by
    cases x with
    | If y xs ys p =>
      obtain ⟨h1, h⟩ := and2 h
      obtain ⟨h2, h3⟩ := and2 h
      exact s_ite (okT c C h1).1 (okSs a C T hk hp h2) (okSs b C T hk hp h3)
    | _ => cases h
  | .forr t it b, X, sc, W, x, C, T, hk, hp, h => by
    cases x with
    | For tgx iter body orelse p =>
      cases orelse with
      | cons _ _ => cases h
      | nil =>
        obtain ⟨h1, h⟩ := and2 h
        obtain ⟨h2, h⟩ := and2 h
        obtain ⟨h3, h4⟩ := and2 h
        exact s_for C hp h1 (okI it C h2) (okG t C T h3) (okSs b C T hk hp h4)
    | _ => cases h
  | .whl c b, X, sc, W, x, C, T, hk, hp, h => by
    cases x with
    | While y body orelse p =>
      cases orelse with
      | cons _ _ => cases h
      | nil =>
        obtain ⟨h1, h2⟩ := and2 h
        exact s_whl hp (okT c C h1).1 (okSs b C T hk hp h2)
    | _ => cases h
termination_by structural x => x
theorem okSs : ∀ (i : Ss) {X : Cx} {sc : Scope} {W : XK} {xs : List Stmt}, XOk X Γ sc k cl A W → TgOk X sc → sc.kind = .function → PassesOwn (model X.prog X.w) X.A X.env X.xe → chkSs Γ i sc xs = true → PSs X xs (dSs X.K A cl W i)
  | .nil, X, sc, W, [], C, T, hk, hp, h => ss_nil
  | .nil, X, sc, W, _ :: _, C, T, hk, hp, h => by cases h
  | .cons s r, X, sc, W, [], C, T, hk, hp, h => by cases h
  | .cons s r, X, sc, W, x :: xs, C, T, hk, hp, h => by
    obtain ⟨h1, h2⟩ := and2 h
    exact ss_cons (okS s C T hk hp h1) (okSs r C T hk hp h2)
termination_by structural x => x
end
end
structure FX where
  nm : Str
  ps : List Str
  N : List Str
  ast : List Stmt
  sc : Scope
  ir : Ss
def tabOf (fs : List FX) : List Fn := fs.map fun f => ⟨f.ps.length, f.N.length, f.ir⟩
def nodupC : List Str → Bool
  | [] => true
  | x :: r => (r.all fun y => !strEq x y) && nodupC r
theorem nodupC_of : ∀ {l : List Str}, nodupC l = true → l.Nodup
  | [], _ => List.nodup_nil
  | x :: r, h => by
    obtain ⟨h1, h2⟩ := and2 h
    refine List.nodup_cons.mpr ⟨fun hm => ?_, nodupC_of h2⟩
    rw [List.all_eq_true] at h1
    have := h1 x hm
    rw [strEq_iff.mpr rfl] at this
    cases this
def scpC (f : FX) : Bool := (match f.sc.kind with | .function => true | _ => false) && (!f.sc.isCoroutine && (!f.sc.isGenerator && (nodupC f.N && (strsEq (f.N.take f.ps.length) f.ps && ((f.ps.all fun x => locC f.sc x) && (f.sc.names.all fun y => match y.2 with | .free => false | _ => true))))))
theorem scpC_of {f : FX} (h : scpC f = true) : FnScope f.N f.ps f.sc := by
  obtain ⟨h1, h⟩ := and2 h
  obtain ⟨h2, h⟩ := and2 h
  obtain ⟨h3, h⟩ := and2 h
  obtain ⟨h4, h⟩ := and2 h
  obtain ⟨h5, h⟩ := and2 h
  obtain ⟨h6, h7⟩ := and2 h
  refine ⟨?_, by simpa using h2, by simpa using h3, nodupC_of h4, strsEq_of h5, fun x hx => locC_of (List.all_eq_true.mp h6 x hx), fun y hy e => ?_⟩
  · revert h1
    cases f.sc.kind <;> intro h1 <;> first | rfl | cases h1
  · have := List.all_eq_true.mp h7 y hy
    rw [e] at this
    cases this
def okNm (x : Str) : Bool := !strEq x "__debug__" && !strEq x "__classdict__"
theorem okNm_of {x : Str} (h : okNm x = true) : (x == ("__debug__" : Str)) = false ∧ (x == ("__classdict__" : Str)) = false := by
  obtain ⟨h1, h2⟩ := and2 h
  rw [strEq_beq, strEq_beq]
  exact ⟨by simpa using h1, by simpa using h2⟩
/-- what the text's functions and names are -/
structure Pg where
  fs : List FX
  G : List Str
  calls : List (Nat × Nat × List Vl)
  kcalls : List (Nat × Nat × List Str × List Nat)
def Pg.gam (p : Pg) (N : List Str) : Gam := ⟨N, p.G, p.fs.map fun f => (f.nm, f.ps), p.calls, p.kcalls⟩
def Pg.chkF (p : Pg) (f : FX) : Bool := scpC f && (f.N.all okNm && chkSs (p.gam f.N) f.ir f.sc f.ast)
def Pg.chk (p : Pg) : Bool := p.G.all okNm && ((p.fs.all fun f => okNm f.nm) && p.fs.all p.chkF)
/-- a function of the text, as it stands behind the top -/
structure FunAt (K : PySem.W.Frag) (mg : Str → Option Value) (p : Pg) (A : Nat → Addr) (f : Nat) (x : FX) (fd : FuncData) : Prop where
  glo : mg x.nm = some (.ref (A f))
  fun_ : ∃ nm qual params dvs kws, FunD K nm qual params x.ast x.sc dvs kws (A f) fd
  call : ∀ n dv, (f, n, dv) ∈ p.calls → ∃ ds dvs, Vals dvs ds ∧ (∀ φ, VRs A φ dv dvs) ∧ n + dv.length = x.ps.length ∧ L2.Binds K fd x.ps ds
  kcall : ∀ n ks pm, (f, n, ks, pm) ∈ p.kcalls → pm.length = x.ps.length ∧ (∀ j ∈ pm, j < n + ks.length) ∧ ∀ (s : Shared) (us ws : List Value), K.In s.heap → us.length = n → ws.length = ks.length → BindsTo s fd ⟨us, ks.zip ws⟩ (x.ps.zip (pick (us ++ ws) pm))
structure ModAt (K : PySem.W.Frag) (mg : Str → Option Value) (p : Pg) (A : Nat → Addr) : Prop where
  glo : ∀ i x, p.G[i]? = some x → mg x = some (.ref (A i))
  bi : ∀ x ∈ biNames, mg x = none
  fn : ∀ f x, p.fs[f]? = some x → ∃ fd, FunAt K mg p A f x fd
theorem envR_start {A : Nat → Addr} {φ : Loc} {N : List Str} {us : List Vl} {vs : List V} (h : VRs A φ us vs) : EnvR A φ (MP.start N.length us) (L2.start N vs) := by
  have hl := Paired.len h
  unfold MP.start L2.start
  rw [hl]
  refine ⟨by simp [hl], fun i v q => ?_⟩
  by_cases c : i < us.length
  · rw [List.getElem?_append_left (by simpa using c), List.getElem?_map] at q
    rw [List.getElem?_append_left (by simpa [← hl] using c), List.getElem?_map]
    cases e : us[i]? with
    | none => rw [e] at q; cases q
    | some w =>
      rw [e] at q
      cases q
      obtain ⟨x, h1, h2⟩ := Paired.at1 h e
      exact ⟨x, by rw [h1]; rfl, h2⟩
  · rw [List.getElem?_append_right (by simpa using c), List.getElem?_replicate] at q
    split at q <;> cases q
theorem fns_ok {P : Program} {w : World} {K : PySem.W.Frag} {mg : Str → Option Value} {base : Heap} {p : Pg} {A : Nat → Addr} (M : ModAt K mg p A) (c : p.chk = true) :
    ∀ (d f : Nat) (x : FX) (fd : FuncData), p.fs[f]? = some x → FunAt K mg p A f x fd → FnG P w K mg base d (A f) fd x.ps (spF K A (calls (tabOf p.fs) d) f x.ps.length)
  | 0, f, x, fd, hx, F => ⟨fun vs H Q E h => h.1, fun A' outer s H args us vs Q E hr hg e0 hb r h => by
      obtain ⟨_, φ, S, u, _, _, q⟩ := h
      exact False.elim q⟩
  | d + 1, f, x, fd, hx, F => by
    obtain ⟨nm, qual, params, dvs, kws, FD⟩ := F.fun_
    obtain ⟨c1, c⟩ := and2 c
    obtain ⟨c2, c3⟩ := and2 c
    have cf : p.chkF x = true := List.all_eq_true.mp c3 x (List.mem_of_getElem? hx)
    obtain ⟨f1, cf⟩ := and2 cf
    obtain ⟨f2, f3⟩ := and2 cf
    have sc := scpC_of f1
    refine FnG.of FD sc (fun vs H Q E h => h.1) fun cdv A' outer s H vs Q E room hgd h => ?_
    obtain ⟨hlen, φ, S, us, r, rel, q⟩ := h
    have md : ModOk P w K mg base (p.gam x.N) d (calls (tabOf p.fs) d) A := by
      refine ⟨M.glo, M.bi, fun g nm ps hg => ?_, fun y hy => ?_⟩
      · have hg : (p.fs.map fun f => (f.nm, f.ps))[g]? = some (nm, ps) := hg
        rw [List.getElem?_map] at hg
        cases e : p.fs[g]? with
        | none => rw [e] at hg; cases hg
        | some y =>
          rw [e] at hg
          cases hg
          obtain ⟨fd', F'⟩ := M.fn g y e
          have kp : PySem.W.keepIn K (.ref (A g)) = true := by
            obtain ⟨_, _, _, _, _, FD'⟩ := F'.fun_
            exact FD'.kp
          exact ⟨F'.glo, kp, fd', fns_ok M (by unfold Pg.chk; rw [c1, c2, c3]; rfl) d g y fd' e F', fun n dv hm => (by
            obtain ⟨ds, dvs, h1, h2, h3, h4⟩ := F'.call n dv hm
            exact ⟨ds, dvs, h1, h2, h3, kp, h4⟩), F'.kcall⟩
      · refine okNm_of ?_
        rcases hy with hy | hy | hy
        · exact List.all_eq_true.mp f2 y hy
        · exact List.all_eq_true.mp c1 y hy
        · obtain ⟨z, hz, e⟩ := List.mem_map.mp hy
          obtain ⟨g, hg, e2⟩ := List.mem_map.mp hz
          subst e2
          rw [← e]
          exact List.all_eq_true.mp c2 g hg
    have C : XOk (cxOf (L2.CX P w) P w K mg base x.N qual x.sc (A f) cdv A' outer s H E) (p.gam x.N) x.sc d (calls (tabOf p.fs) d) A E :=
      ⟨rfl, sc.nd, rfl, rfl, hgd, md, room, takes_of rfl rfl rfl rfl⟩
    refine ⟨_, okSs x.ir C (fun y hy => ⟨hy, .inl rfl⟩) sc.kind (passes_of rfl) f3, φ, S, MP.start x.N.length us, r, envR_start rel, ?_⟩
    have hT : (tabOf p.fs)[f]? = some ⟨x.ps.length, x.N.length, x.ir⟩ := by
      unfold tabOf
      rw [List.getElem?_map, hx]
      rfl
    have q : Post K A (VR A) φ H (match (tabOf p.fs)[f]? with
      | none => .bad
      | some F => if us.length == F.np then (match exs (calls (tabOf p.fs) d) F.body (MP.start F.nn us) S with
        | .fl (.nx _) S1 => .ok .non S1
        | .fl (.rt v) S1 => .ok v S1
        | .exc k v _ S1 => .exc k v S1
        | _ => .bad) else .bad) Q E := q
    rw [hT] at q
    dsimp only at q
    by_cases cl : (us.length == x.ps.length) = true
    case neg => rw [if_neg cl] at q; exact False.elim q
    rw [if_pos cl] at q
    show PostS K A E φ H (exs (calls (tabOf p.fs) d) x.ir (MP.start x.N.length us) S) _
    cases e : exs (calls (tabOf p.fs) d) x.ir (MP.start x.N.length us) S with
    | bad => rw [e] at q; exact False.elim q
    | exc k1 v1 ρ1 S1 => rw [e] at q; exact q
    | fl fl S1 =>
      rw [e] at q
      cases fl with
      | nx ρ1 => exact fun φ1 H1 σ1 e1 r1 en1 => q φ1 H1 .non e1 r1 rfl
      | rt v => exact q
      | bk ρ1 => exact False.elim q
      | ct ρ1 => exact False.elim q
end MP
namespace MP
open PySem PySem.Spec PyProof.Rows L2
/-- no list among the things that K holds -/
def NoL (K : PySem.W.Frag) : Prop := ∀ a o, K.lookup a = some o → o.cls ≠ .type "list"
def lstO (vs : List Value) : Obj := { cls := .type "list", data := .seq vs.toArray }
/-- the heap that knows the script alone -/
def scrH (a : Addr) (vs : List Value) (ns : List Int) : Hp := fun b => if b = a then some (.frz (lstO vs) (.lst (ns.map V.int))) else none
theorem law_fn {P : Program} {w : World} {K : PySem.W.Frag} {mg mb : Str → Option Value} {k : Nat} {fa a : Addr} {fd : FuncData} {x : Str} {sp : Sp} {t : Shared} {vs : List Value} {ns : List Int}
    (hK : K.In t.heap) (nl : NoL K) (hG : t.heap.Ns mainGlobals mg) (hB : t.heap.Ns builtinsNs mb) (hbb : ∀ y : Str, y ≠ "__name__" → mb y = bootBuiltins y) (lim : t.heap.NoLimit) (gens : t.gens = #[])
    (obj : t.heap.get? a = some (lstO vs)) (iz : IntsAre vs ns) (few : ns.length ≤ sizeLine) (room : Room k callerA)
    (F : ∀ base : Heap, FnG P w K mg base k fa fd [x] sp) (binds : ∀ (s : Shared) (u : Value), BindsTo s fd ⟨[u], []⟩ [(x, u)])
    (hsp : sp [.ref a] (scrH a vs ns) (fun v _ => v = .bl true) fun _ _ _ => False) :
    codeAny (model P w) callerA (.call (.ref fa) ⟨[.ref a], []⟩) (fun r s' => r = .ok (.ret (.bool true)) ∧ OldK t.heap s'.heap ∧ s'.os = t.os ∧ AllBare s'.gens) t := by
  have iv := vals_ints iz
  have other : ∀ b, b ≠ a → scrH a vs ns b = none := fun b h => if_neg h
  have self : scrH a vs ns a = some (.frz (lstO vs) (.lst (ns.map V.int))) := if_pos rfl
  have kN : K.lookup a = none := by
    cases q : K.lookup a with
    | none => rfl
    | some o =>
      have e := hK a o q
      rw [obj] at e
      cases e
      exact absurd rfl (nl a _ q)
  have held : HOk P w (scrH a vs ns) t.heap := fun b u h => by
    by_cases e : b = a
    · subst e
      rw [self] at h
      cases h
      exact ⟨obj, by rw [List.length_map]; exact few, vs, _, iv, obj⟩
    · rw [other b e] at h
      cases h
  have stays : ∀ {b : Addr} {o : Obj}, t.heap.get? b = some o → b ≠ a → (hidT t.heap (scrH a vs ns)).get? b = some o := fun g h => hidT_get g (other _ h)
  have dictNe : ∀ {b : Addr} {o : Obj} {es : Array DictEntry} {ep : Nat}, t.heap.get? b = some o → o.data = .dict es ep → b ≠ a := fun {b o es ep} g d e => by
    subst e
    rw [obj] at g
    cases g
    have d : Data.seq vs.toArray _ = Data.dict es ep := d
    cases d
  have nsOf : ∀ {b : Addr} {m : Str → Option Value}, t.heap.Ns b m → (hidT t.heap (scrH a vs ns)).Ns b m := fun h => by
    obtain ⟨o, es, ep, g, d, r⟩ := h
    exact ⟨o, es, ep, stays g (dictNe g d), d, r⟩
  have kIn : K.In (hidT t.heap (scrH a vs ns)) := fun b o g => stays (hK b o g) fun e => by
    subst e
    rw [kN] at g
    cases g
  have md : L2.Mod K mg (hidT t.heap (scrH a vs ns)) := ⟨kIn, nsOf hG, ⟨mb, nsOf hB, hbb⟩, by
    obtain ⟨mc, h1, h2⟩ := lim
    exact ⟨mc, nsOf h1, h2⟩⟩
  have e0 : Env0 P w K mg (hidT t.heap (scrH a vs ns)) callerA [] t (scrH a vs ns) :=
    ⟨rfl, md, fun b o g => of_hidT g, Nat.le_of_eq (hidT_size _ _), trivial, fun b h => (List.not_mem_nil h).elim, held, .of_eq gens⟩
  refine codeAny_mono ((F _).run callerA [] t (scrH a vs ns) ⟨[.ref a], []⟩ [.ref a] [.ref a] _ _ room rfl e0 (binds t (.ref a)) (.cons rfl .nil) hsp) fun r s' h => ?_
  match r, h with
  | .error e, ⟨_, _, _, _, _, _, _, _, _, _, _, _, z⟩ => exact z.elim
  | .ok (.ret u), ⟨v, H', os, bare, un, held', rv, q⟩ =>
    have q : v = .bl true := q
    subst q
    have rv : u = Value.bool true := rv
    subst rv
    refine ⟨rfl, OldK.of_keep fun b o g => ?_, os, bare⟩
    by_cases e : b = a
    · subst e
      have f := un.frzs b _ _ self
      obtain ⟨g1, _⟩ := held' b _ f
      rw [obj] at g
      cases g
      exact g1
    · exact un.keep b o g (other b e) List.not_mem_nil List.not_mem_nil
/-- the store at the law's entry -/
def sto0 (ns : List Int) : Sto := Sto.nil.push (.rol (ns.map Vl.int))
theorem spF_law {K : PySem.W.Frag} {A : Nat → Addr} {cl : Nat → List Vl → Sto → R Vl} {f : Nat} {a : Addr} {vs : List Value} {ns : List Int} {S' : Sto} (h : cl f [.ref 0] (sto0 ns) = .ok (.bl true) S') :
    spF K A cl f 1 [.ref a] (scrH a vs ns) (fun v _ => v = .bl true) fun _ _ _ => False := by
  have g0 : ∀ i, (sto0 ns).get i = if i = 0 then some (.rol (ns.map Vl.int)) else none := fun i => by
    unfold sto0
    rw [Sto.get_push]
    have e : Sto.nil.n = 0 := rfl
    rw [e]
    by_cases c : i = 0
    · rw [if_pos c, if_pos c]
    · rw [if_neg c, if_neg c]
      unfold Sto.get
      rw [if_neg (by rw [e]; exact Nat.not_lt_zero i)]
  refine ⟨rfl, fun i => if i = 0 then some a else none, sto0 ns, [.ref 0], ⟨fun i b q => ?_, fun i o q => ?_, fun i j b q1 q2 _ _ => ?_⟩, .cons ⟨a, if_pos rfl, rfl⟩ .nil, ?_⟩
  · by_cases c : i = 0
    · exact ⟨_, by rw [g0, if_pos c]⟩
    · rw [if_neg c] at q; cases q
  · rw [g0] at q
    by_cases c : i = 0
    · rw [if_pos c] at q
      cases q
      exact ⟨a, if_pos c, ns.map V.int, VRs.ints ns, lstO vs, if_pos rfl⟩
    · rw [if_neg c] at q; cases q
  · by_cases c : i = 0
    · by_cases d : j = 0
      · rw [c, d]
      · rw [if_neg d] at q2; cases q2
    · rw [if_neg c] at q1; cases q1
  · rw [h]
    exact fun φ' H' x e r l => l
def isL (o : Obj) : Bool := match o.cls with
  | .type n => n == "list"
  | _ => false
def noL (g : Addr → Option Obj) : Addr → Option Obj := fun a => match g a with
  | some o => match isL o with
    | true => none
    | false => some o
  | none => none
theorem noL_at {g : Addr → Option Obj} {a : Addr} {o : Obj} (h : noL g a = some o) : g a = some o ∧ o.cls ≠ .type "list" := by
  unfold noL at h
  cases q : g a with
  | none => rw [q] at h; cases h
  | some u =>
    rw [q] at h
    dsimp only at h
    cases z : isL u with
    | true => rw [z] at h; cases h
    | false =>
      rw [z] at h
      cases h
      refine ⟨rfl, fun e => ?_⟩
      unfold isL at z
      rw [e] at z
      exact absurd z (by decide)
open He in
def hookL (n : Nat) (fa : List Fa) (fn : List DefD) : PySem.W.Hook where
  α := AlD
  obs := fun s => obsD fa fn (frG (noL s.heap.get?) (asD s.heap.get? n))
  val := fun _ => valD fn
  says := fun _ h => ∃ K : PySem.W.Frag, K.In h ∧ NoL K ∧ SaysD fa fn K
  of := fun _ s e => ⟨_, fun a o h => (noL_at (frG_at _ h)).1, fun a o h => (noL_at (frG_at _ h)).2, e⟩
  keeps := fun _ _ _ ⟨K, hK, hL, c⟩ k => ⟨K, PySem.W.Frag.In.keeps hK k, hL, c⟩
open He in
def obL (n : Nat) (fa : List Fa) (fn : List DefD) (s : PySem.W.SharedT) : AlD := obsD fa fn (frG (noL (HandSHeadRun.getT s)) (asD (HandSHeadRun.getT s) n))
theorem obL_eq {n : Nat} {fa : List He.Fa} {fn : List He.DefD} (s : PySem.W.SharedT) : obL n fa fn s = (hookL n fa fn).obs s.abs := by
  have e : HandSHeadRun.getT s = s.abs.heap.get? := funext (HandSHeadRun.getT_eq s)
  unfold obL
  rw [e]
  rfl
/-- the law, from its defs' facts -/
theorem walk_mp {l : PySem.W.OpenLaw} {n k : Nat} {q : Program} {loose : List Str} {XP : (Str → Option Value) → Heap → Prop} {d : DefRec} {nh : Nat} {fa : List He.Fa} {fn : List He.DefD} {x : Str}
    (hn : l.most = some n) (hn2 : n ≤ sizeLine) (hdf : d.params.defaults = []) (hr : Room k callerA)
    (F : ∀ (w : World) (mg : Str → Option Value) (f : Addr) (h : Heap) (K : PySem.W.Frag), K.In h → He.SaysD fa fn K → h.Ns mainGlobals mg → mg d.name = some (.ref f) →
      ∃ (fd : FuncData) (sp : Sp), (∀ (s : Shared) (u : Value), BindsTo s fd ⟨[u], []⟩ [(x, u)]) ∧
        (∀ (a : Addr) (vs : List Value) (ns : List Int), ns.length ≤ n → sp [.ref a] (scrH a vs ns) (fun v _ => v = .bl true) fun _ _ _ => False) ∧ ∀ base : Heap, FnG l.prog w K mg base k f fd [x] sp) :
    PySem.W.WalkO q loose XP (hookL nh fa fn).says l.row.toRowW d [] (fun f vs => PySem.call f vs) := by
  refine Att.attach_call hn hdf fun w s₀ s₁ mg mb f o pm cd doc a vs ns G Y ho hd hcd hmg hobj hints hlen hg => ?_
  obtain ⟨K, hK, nl, c⟩ := Y
  obtain ⟨fd, sp, hb, hsp, hF⟩ := F w mg f _ K hK c G.T.g hmg
  exact law_fn hK nl G.T.g G.T.b G.T.builtins G.T.nolimit hg hobj hints (Nat.le_trans hlen hn2) hr hF hb (hsp a vs ns hlen)
/-- the entries of one function -/
def selC {α : Type} (f : Nat) : List (Nat × α) → List α
  | [] => []
  | c :: cs => match Nat.beq c.1 f with
    | true => c.2 :: selC f cs
    | false => selC f cs
theorem selC_of {α : Type} {f : Nat} {x : α} : ∀ {cs : List (Nat × α)}, (f, x) ∈ cs → x ∈ selC f cs
  | [], h => (List.not_mem_nil h).elim
  | c :: cs, h => by
    unfold selC
    rcases List.mem_cons.mp h with e | h
    · subst e
      have b : Nat.beq f f = true := by simp
      simp only [b]
      exact List.mem_cons_self ..
    · cases Nat.beq c.1 f with
      | true => exact List.mem_cons_of_mem _ (selC_of h)
      | false => exact selC_of h
end MP
namespace MP
open PySem
inductive D where
  | non | bl (b : Bool) | int (i : Int) | str (s : Str) | lst (t : Bool) (xs : List D) | tup (xs : List D) | dct | pur (n : Nat)
  deriving Inhabited
structure Wc where
  n0 : Nat
  pu : Nat → Bool
  ce : Nat → Option (List Vl)
mutual
def Is (C : Wc) (S : Sto) : D → Vl → Prop
  | .non, v => v = .non
  | .bl b, v => v = .bl b
  | .int i, v => v = .int i
  | .str s, v => v = .str s
  | .lst t xs, v => ∃ n vs, v = .ref n ∧ S.get n = some (.lst vs) ∧ C.pu n = false ∧ t = decide (C.n0 ≤ n) ∧ IsL C S xs vs
  | .tup xs, v => ∃ n vs, v = .ref n ∧ S.get n = some (.tup vs) ∧ C.pu n = false ∧ IsL C S xs vs
  | .dct, v => ∃ n, v = .ref n ∧ S.get n = some (.dK []) ∧ C.pu n = false
  | .pur n, v => v = .ref n ∧ C.pu n = true ∧ C.ce n = none
def IsL (C : Wc) (S : Sto) : List D → List Vl → Prop
  | [], vs => vs = []
  | d :: ds, vs => ∃ v r, vs = v :: r ∧ Is C S d v ∧ IsL C S ds r
end
theorem isL_iff {C : Wc} {S : Sto} : ∀ {ds : List D} {vs : List Vl}, IsL C S ds vs ↔ Paired (fun v d => Is C S d v) vs ds
  | [], vs => ⟨fun h => by have h : vs = [] := h; subst h; exact .nil, fun h => by cases h; exact rfl⟩
  | d :: ds, vs => ⟨fun ⟨v, r, e, h1, h2⟩ => by subst e; exact .cons h1 (isL_iff.mp h2), fun h => by
      cases h with
      | cons h1 h2 => exact ⟨_, _, rfl, h1, isL_iff.mpr h2⟩⟩
/-- what is held and no purse stays -/
structure Kp (C : Wc) (S S' : Sto) : Prop where
  n : S.n ≤ S'.n
  keep : ∀ i o, S.get i = some o → C.pu i = false → S'.get i = some o
theorem Kp.refl {C : Wc} {S : Sto} : Kp C S S := ⟨Nat.le_refl _, fun _ _ h _ => h⟩
theorem Kp.trans {C : Wc} {S S1 S2 : Sto} (a : Kp C S S1) (b : Kp C S1 S2) : Kp C S S2 := ⟨Nat.le_trans a.n b.n, fun i o h p => b.keep i o (a.keep i o h p) p⟩
theorem Kp.push {C : Wc} {S : Sto} (o : Ob) : Kp C S (S.push o) := ⟨by rw [Sto.n_push]; exact Nat.le_succ _, fun i u h _ => by
  rw [Sto.get_push, if_neg (Nat.ne_of_lt (Sto.get_lt h))]
  exact h⟩
mutual
theorem Is.kp {C : Wc} {S S' : Sto} (k : Kp C S S') : ∀ (d : D) {v : Vl}, Is C S d v → Is C S' d v
  | .non, v, h => h
  | .bl b, v, h => h
  | .int i, v, h => h
  | .str s, v, h => h
  | .lst t xs, v, ⟨n, vs, e, g, p, ht, hl⟩ => ⟨n, vs, e, k.keep n _ g p, p, ht, IsL.kp k xs hl⟩
  | .tup xs, v, ⟨n, vs, e, g, p, hl⟩ => ⟨n, vs, e, k.keep n _ g p, p, IsL.kp k xs hl⟩
  | .dct, v, ⟨n, e, g, p⟩ => ⟨n, e, k.keep n _ g p, p⟩
  | .pur n, v, h => h
theorem IsL.kp {C : Wc} {S S' : Sto} (k : Kp C S S') : ∀ (ds : List D) {vs : List Vl}, IsL C S ds vs → IsL C S' ds vs
  | [], vs, h => h
  | d :: ds, vs, ⟨v, r, e, h1, h2⟩ => ⟨v, r, e, Is.kp k d h1, IsL.kp k ds h2⟩
end
/-- a purse: four numbers, the count of draws at most b -/
def PurAt (b : Nat) (S : Sto) (p : Nat) : Prop := ∃ a s c e : Int, S.get p = some (.lst [.int a, .int s, .int c, .int e]) ∧ (0 ≤ a ∧ a < 10 ^ 480) ∧ (0 ≤ s ∧ s < 2147483629) ∧ (0 ≤ c ∧ c ≤ b) ∧ (0 ≤ e ∧ e ≤ 63)
/-- a purse, or a cell: a list that is held otherwise -/
def PuAt (C : Wc) (b : Nat) (S : Sto) (p : Nat) : Prop := match C.ce p with
  | none => PurAt b S p
  | some vs => S.get p = some (.lst vs)
def PuOk (C : Wc) (b : Nat) (S : Sto) : Prop := (∀ p, C.pu p = true → PuAt C b S p) ∧ C.n0 ≤ S.n
def BIG : Nat := 2 ^ 100000
theorem PuAt.pur {C : Wc} {b : Nat} {S : Sto} {p : Nat} (h : PuAt C b S p) (e : C.ce p = none) : PurAt b S p := by
  unfold PuAt at h
  rw [e] at h
  exact h
theorem PuAt.cell {C : Wc} {b : Nat} {S : Sto} {p : Nat} {vs : List Vl} (h : PuAt C b S p) (e : C.ce p = some vs) : S.get p = some (.lst vs) := by
  unfold PuAt at h
  rw [e] at h
  exact h
theorem PuAt.ofPur {C : Wc} {b : Nat} {S : Sto} {p : Nat} (e : C.ce p = none) (h : PurAt b S p) : PuAt C b S p := by
  unfold PuAt
  rw [e]
  exact h
theorem PuAt.get {C : Wc} {b : Nat} {S : Sto} {p : Nat} (h : PuAt C b S p) : ∃ vs, S.get p = some (.lst vs) := by
  unfold PuAt at h
  split at h
  · obtain ⟨_, _, _, _, g, _⟩ := h
    exact ⟨_, g⟩
  · exact ⟨_, h⟩
/-- the same list at p, and at most the draws more -/
theorem PuAt.same {C : Wc} {b b' : Nat} {S S' : Sto} {p : Nat} (h : PuAt C b S p) (l : b ≤ b') (k : ∀ vs, S.get p = some (.lst vs) → S'.get p = some (.lst vs)) : PuAt C b' S' p := by
  unfold PuAt at h ⊢
  split at h
  · obtain ⟨a, s, c, e, h1, h2, h3, h4, h5⟩ := h
    exact ⟨a, s, c, e, k _ h1, h2, h3, ⟨h4.1, by omega⟩, h5⟩
  · exact k _ h
theorem PuOk.nu {C : Wc} {b : Nat} {S : Sto} (h : PuOk C b S) : C.pu S.n = false := by
  cases q : C.pu S.n with
  | false => rfl
  | true =>
    obtain ⟨_, g⟩ := (h.1 _ q).get
    exact absurd (Sto.get_lt g) (Nat.lt_irrefl _)
theorem PuOk.mono {C : Wc} {b b' : Nat} {S : Sto} (h : PuOk C b S) (l : b ≤ b') : PuOk C b' S := ⟨fun p hp => (h.1 p hp).same l fun _ g => g, h.2⟩
theorem PuOk.push {C : Wc} {b : Nat} {S : Sto} (h : PuOk C b S) (o : Ob) : PuOk C b (S.push o) := ⟨fun p hp => (h.1 p hp).same (Nat.le_refl _) fun vs g => by
  rw [Sto.get_push, if_neg (Nat.ne_of_lt (Sto.get_lt g))]; exact g, by rw [Sto.n_push]; exact Nat.le_succ_of_le h.2⟩
/-- a run that ends well: k more draws at most -/
def Ok (C : Wc) (b k : Nat) (S : Sto) {α β : Type} (r : R α) (Rl : Sto → β → α → Prop) (Q : β → Prop) : Prop := ∃ v S' d, r = .ok v S' ∧ Kp C S S' ∧ PuOk C (b + k) S' ∧ Rl S' d v ∧ Q d
theorem Ok.bind {C : Wc} {b k1 k2 : Nat} {S : Sto} {α β γ δ : Type} {r : R α} {Rl : Sto → β → α → Prop} {Q1 : β → Prop} {f : α → Sto → R γ} {Rm : Sto → δ → γ → Prop} {Q : δ → Prop} (h : Ok C b k1 S r Rl Q1)
    (g : ∀ v S1 d, Kp C S S1 → PuOk C (b + k1) S1 → Rl S1 d v → Q1 d → Ok C (b + k1) k2 S1 (f v S1) Rm Q) : Ok C b (k1 + k2) S (r.bind f) Rm Q := by
  obtain ⟨v, S1, d, e, kp, pu, rl, q⟩ := h
  obtain ⟨w, S2, u, e2, kp2, pu2, rl2, q2⟩ := g v S1 d kp pu rl q
  exact ⟨w, S2, u, by rw [e]; exact e2, kp.trans kp2, by rw [← Nat.add_assoc]; exact pu2, rl2, q2⟩
theorem Ok.mono {C : Wc} {b k k' : Nat} {S : Sto} {α β : Type} {r : R α} {Rl : Sto → β → α → Prop} {Q : β → Prop} (h : Ok C b k S r Rl Q) (l : k ≤ k') : Ok C b k' S r Rl Q := by
  obtain ⟨v, S1, d, e, kp, pu, rl, q⟩ := h
  exact ⟨v, S1, d, e, kp, pu.mono (by omega), rl, q⟩
theorem Ok.ret {C : Wc} {b : Nat} {S : Sto} {α β : Type} {v : α} {d : β} {Rl : Sto → β → α → Prop} {Q : β → Prop} (p : PuOk C b S) (rl : Rl S d v) (q : Q d) : Ok C b 0 S (.ok v S) Rl Q := ⟨v, S, d, rfl, Kp.refl, p, rl, q⟩
def D.datL (f : D → Option PyData) : List D → Option (List PyData)
  | [] => some []
  | v :: vs => match f v, D.datL f vs with
    | some d, some ds => some (d :: ds)
    | _, _ => none
def D.dat : Nat → D → Option PyData
  | _, .non => some .none
  | _, .bl b => some (.bool b)
  | _, .int i => some (.int i)
  | _, .str s => some (.str s)
  | _, .dct => none
  | _, .pur _ => none
  | 0, .lst _ _ => none
  | 0, .tup _ => none
  | k + 1, .lst _ xs => (D.datL (D.dat k) xs).map .list
  | k + 1, .tup xs => (D.datL (D.dat k) xs).map .tuple
termination_by structural k => k
theorem Is.dat {C : Wc} {S : Sto} : ∀ (k : Nat) {d : D} {v : Vl} {p : PyData}, Is C S d v → d.dat k = some p → MP.dat k S v = some p := by
  intro k
  induction k with
  | zero =>
    intro d v p h e
    cases d with
    | lst t xs => cases e
    | tup xs => cases e
    | dct => cases e
    | pur n => cases e
    | _ => cases (show v = _ from h); exact e
  | succ k ih =>
    intro d v p h e
    have all : ∀ (xs : List D) (vs : List Vl) (ps : List PyData), IsL C S xs vs → D.datL (D.dat k) xs = some ps → MP.datL (MP.dat k S) vs = some ps := by
      intro xs
      induction xs with
      | nil => intro vs ps h e; cases (show vs = [] from h); exact e
      | cons d ds ihl =>
        intro vs ps ⟨v, r, ev, h1, h2⟩ e
        subst ev
        unfold D.datL at e
        cases q1 : D.dat k d with
        | none => rw [q1] at e; cases e
        | some p1 =>
          cases q2 : D.datL (D.dat k) ds with
          | none => rw [q1, q2] at e; cases e
          | some p2 =>
            rw [q1, q2] at e
            cases e
            unfold MP.datL
            rw [ih h1 q1, ihl r p2 h2 q2]
    cases d with
    | lst t xs =>
      obtain ⟨n, vs, ev, g, pn, ht, hl⟩ := h
      subst ev
      have e : (D.datL (D.dat k) xs).map PyData.list = some p := e
      cases q : D.datL (D.dat k) xs with
      | none => rw [q] at e; cases e
      | some ps =>
        rw [q] at e
        unfold MP.dat
        rw [g]
        dsimp only
        rw [all xs vs ps hl q]
        exact e
    | tup xs =>
      obtain ⟨n, vs, ev, g, pn, hl⟩ := h
      subst ev
      have e : (D.datL (D.dat k) xs).map PyData.tuple = some p := e
      cases q : D.datL (D.dat k) xs with
      | none => rw [q] at e; cases e
      | some ps =>
        rw [q] at e
        unfold MP.dat
        rw [g]
        dsimp only
        rw [all xs vs ps hl q]
        exact e
    | dct => cases e
    | pur n => cases e
    | _ => cases (show v = _ from h); exact e
def D.seq : D → Option (List D)
  | .lst _ xs => some xs
  | .tup xs => some xs
  | _ => none
def D.lsq : D → Option (List D)
  | .lst _ xs => some xs
  | _ => none
theorem Is.seq {C : Wc} {S : Sto} {d : D} {v : Vl} {xs : List D} (h : Is C S d v) (e : d.seq = some xs) : ∃ vs, seqOf S v = some vs ∧ IsL C S xs vs := by
  cases d with
  | lst t ys => cases e; obtain ⟨n, vs, ev, g, _, _, hl⟩ := h; subst ev; exact ⟨vs, by simp only [seqOf, g], hl⟩
  | tup ys => cases e; obtain ⟨n, vs, ev, g, _, hl⟩ := h; subst ev; exact ⟨vs, by simp only [seqOf, g], hl⟩
  | _ => cases e
theorem Is.lsq {C : Wc} {S : Sto} {d : D} {v : Vl} {xs : List D} (h : Is C S d v) (e : d.lsq = some xs) : ∃ vs, lstOf S v = some vs ∧ IsL C S xs vs := by
  cases d with
  | lst t ys => cases e; obtain ⟨n, vs, ev, g, _, _, hl⟩ := h; subst ev; exact ⟨vs, by simp only [lstOf, g], hl⟩
  | _ => cases e
theorem IsL.len {C : Wc} {S : Sto} {xs : List D} {vs : List Vl} (h : IsL C S xs vs) : vs.length = xs.length := Paired.len (isL_iff.mp h)
theorem IsL.at1 {C : Wc} {S : Sto} {xs : List D} {vs : List Vl} {i : Nat} {d : D} (h : IsL C S xs vs) (e : xs[i]? = some d) : ∃ v, vs[i]? = some v ∧ Is C S d v := by
  have p := isL_iff.mp h
  cases q : vs[i]? with
  | none => rw [Paired.at0 p q] at e; cases e
  | some v =>
    obtain ⟨b, h1, h2⟩ := Paired.at1 p q
    rw [e] at h1
    cases h1
    exact ⟨v, rfl, h2⟩
def D.ints : List D → Option (List Int)
  | [] => some []
  | .int i :: r => (D.ints r).map (i :: ·)
  | _ :: _ => none
def D.bls : List D → Option (List Bool)
  | [] => some []
  | .bl i :: r => (D.bls r).map (i :: ·)
  | _ :: _ => none
theorem IsL.ints {C : Wc} {S : Sto} : ∀ {xs : List D} {vs : List Vl} {ns : List Int}, IsL C S xs vs → D.ints xs = some ns → intsOf vs = some ns
  | [], vs, ns, h, e => by cases (show vs = [] from h); exact e
  | .int i :: xs, vs, ns, ⟨v, r, ev, h1, h2⟩, e => by
    subst ev
    cases (show v = .int i from h1)
    unfold D.ints at e
    cases q : D.ints xs with
    | none => rw [q] at e; cases e
    | some ms =>
      rw [q] at e
      unfold intsOf
      rw [IsL.ints h2 q]
      exact e
  | .non :: _, _, _, _, e => by cases e
  | .bl _ :: _, _, _, _, e => by cases e
  | .str _ :: _, _, _, _, e => by cases e
  | .lst _ _ :: _, _, _, _, e => by cases e
  | .tup _ :: _, _, _, _, e => by cases e
  | .dct :: _, _, _, _, e => by cases e
  | .pur _ :: _, _, _, _, e => by cases e
theorem IsL.bls {C : Wc} {S : Sto} : ∀ {xs : List D} {vs : List Vl} {ns : List Bool}, IsL C S xs vs → D.bls xs = some ns → blsOf vs = some ns
  | [], vs, ns, h, e => by cases (show vs = [] from h); exact e
  | .bl i :: xs, vs, ns, ⟨v, r, ev, h1, h2⟩, e => by
    subst ev
    cases (show v = .bl i from h1)
    unfold D.bls at e
    cases q : D.bls xs with
    | none => rw [q] at e; cases e
    | some ms =>
      rw [q] at e
      unfold blsOf
      rw [IsL.bls h2 q]
      exact e
  | .non :: _, _, _, _, e => by cases e
  | .int _ :: _, _, _, _, e => by cases e
  | .str _ :: _, _, _, _, e => by cases e
  | .lst _ _ :: _, _, _, _, e => by cases e
  | .tup _ :: _, _, _, _, e => by cases e
  | .dct :: _, _, _, _, e => by cases e
  | .pur _ :: _, _, _, _, e => by cases e
theorem IsL.intsV {C : Wc} {S : Sto} : ∀ ns : List Int, IsL C S (ns.map .int) (ns.map .int)
  | [] => rfl
  | n :: ns => ⟨_, _, rfl, rfl, IsL.intsV ns⟩
def D.flat : D → Bool
  | .non => true | .bl _ => true | .int _ => true | .str _ => true | _ => false
def D.eqF : D → D → Bool
  | .non, .non => true
  | .bl a, .bl b => a == b
  | .bl a, .int b => (if a then 1 else 0) == b
  | .int a, .bl b => a == (if b then 1 else 0)
  | .int a, .int b => a == b
  | .str a, .str b => strEq a b
  | _, _ => false
def D.allFlat : List D → Bool
  | [] => true
  | v :: vs => v.flat && D.allFlat vs
def D.inF (x : D) : List D → Bool
  | [] => false
  | v :: vs => v.eqF x || D.inF x vs
theorem Is.flat {C : Wc} {S : Sto} {d : D} {v : Vl} (h : Is C S d v) (f : d.flat = true) : MP.flat v = true := by
  cases d <;> first | (cases f; done) | (cases (show v = _ from h); rfl)
theorem Is.eqF {C : Wc} {S : Sto} {d e : D} {v w : Vl} (h : Is C S d v) (k : Is C S e w) (f : d.flat = true) (g : e.flat = true) : MP.eqF v w = d.eqF e := by
  cases d <;> first | (cases f; done) | skip
  all_goals
    cases e <;> first | (cases g; done) | skip
    all_goals
      cases (show v = _ from h)
      cases (show w = _ from k)
      rfl
theorem IsL.flat {C : Wc} {S : Sto} : ∀ {xs : List D} {vs : List Vl}, IsL C S xs vs → D.allFlat xs = true → MP.allFlat vs = true
  | [], vs, h, f => by cases (show vs = [] from h); rfl
  | d :: xs, vs, ⟨v, r, ev, h1, h2⟩, f => by
    subst ev
    obtain ⟨f1, f2⟩ := and2 f
    unfold MP.allFlat
    rw [h1.flat f1, IsL.flat h2 f2]
    rfl
theorem IsL.inF {C : Wc} {S : Sto} {x : D} {u : Vl} (h : Is C S x u) (g : x.flat = true) : ∀ {xs : List D} {vs : List Vl}, IsL C S xs vs → D.allFlat xs = true → MP.inF u vs = D.inF x xs
  | [], vs, h, f => by cases (show vs = [] from h); rfl
  | d :: xs, vs, ⟨v, r, ev, h1, h2⟩, f => by
    subst ev
    obtain ⟨f1, f2⟩ := and2 f
    unfold MP.inF D.inF
    rw [h1.eqF h f1 g, IsL.inF h g h2 f2]
def atA {α : Type} (xs : List α) (i : Int) : Option α := (ixI xs.length i).bind fun j => xs[j]?
def cutA {α : Type} (xs : List α) (lo hi : Option Int) : List α := (xs.drop (sIxS xs.length 0 lo)).take (sIxS xs.length xs.length hi - sIxS xs.length 0 lo)
def repA {α : Type} (xs : List α) : Nat → List α
  | 0 => []
  | k + 1 => xs ++ repA xs k
theorem IsL.app {C : Wc} {S : Sto} {xs ys : List D} {vs ws : List Vl} (h : IsL C S xs vs) (k : IsL C S ys ws) : IsL C S (xs ++ ys) (vs ++ ws) := isL_iff.mpr (Paired.app (isL_iff.mp h) (isL_iff.mp k))
theorem IsL.rep {C : Wc} {S : Sto} {xs : List D} {vs : List Vl} (h : IsL C S xs vs) : ∀ k : Nat, IsL C S (repA xs k) (repL vs k)
  | 0 => rfl
  | k + 1 => IsL.app h (IsL.rep h k)
theorem IsL.cut {C : Wc} {S : Sto} {xs : List D} {vs : List Vl} (h : IsL C S xs vs) (lo hi : Option Int) : IsL C S (cutA xs lo hi) (cutL vs lo hi) := by
  unfold cutA cutL
  rw [IsL.len h]
  exact isL_iff.mpr (Paired.tk _ (Paired.dr _ (isL_iff.mp h)))
theorem IsL.rev {C : Wc} {S : Sto} {xs : List D} {vs : List Vl} (h : IsL C S xs vs) : IsL C S xs.reverse vs.reverse := isL_iff.mpr (Paired.rv (isL_iff.mp h))
theorem IsL.ix {C : Wc} {S : Sto} {xs : List D} {vs : List Vl} {i : Int} {d : D} (h : IsL C S xs vs) (e : atA xs i = some d) : ∃ v, ((ixI vs.length i).bind fun j => vs[j]?) = some v ∧ Is C S d v := by
  unfold atA at e
  rw [← IsL.len h] at e
  cases q : ixI vs.length i with
  | none => rw [q] at e; cases e
  | some j =>
    rw [q] at e
    exact IsL.at1 h (show xs[j]? = some d from e)
theorem Ok.newL {C : Wc} {b : Nat} {S : Sto} {xs : List D} {vs : List Vl} {Q : D → Prop} (p : PuOk C b S) (h : IsL C S xs vs) (l : xs.length ≤ lineN) (q : Q (.lst true xs)) : Ok C b 0 S (MP.newL vs S) (Is C) Q := by
  unfold MP.newL
  rw [if_pos (by rw [IsL.len h]; exact Nat.ble_eq_true_of_le l)]
  refine ⟨_, _, .lst true xs, rfl, Kp.push _, p.push _, ⟨S.n, vs, rfl, ?_, p.nu, ?_, IsL.kp (Kp.push _) xs h⟩, q⟩
  · rw [Sto.get_push, if_pos rfl]
  · exact (decide_eq_true p.2).symm
end MP
namespace MP
open PySem
abbrev PEnv := List (Option D)
def wBin : Op2 → D → D → (D → Prop) → Prop
  | .add, .int i, .int j, Q => Q (.int (i + j))
  | .add, .str a, .str b, Q => a.length + b.length ≤ lineN ∧ Q (.str (a ++ b))
  | .add, .lst _ xs, .lst _ ys, Q => xs.length + ys.length ≤ lineN ∧ Q (.lst true (xs ++ ys))
  | .add, .tup (x :: xs), .tup (y :: ys), Q => xs.length + 1 + (ys.length + 1) ≤ lineN ∧ Q (.tup ((x :: xs) ++ (y :: ys)))
  | .sub, .int i, .int j, Q => Q (.int (i - j))
  | .mul, .int i, .int j, Q => mulOk i j = true ∧ Q (.int (i * j))
  | .mul, .lst _ xs, .int k, Q => (-(2 ^ 62) ≤ k ∧ k < 2 ^ 62 ∧ xs.length * k.toNat ≤ lineN) ∧ Q (.lst true (repA xs k.toNat))
  | .fdiv, .int i, .int j, Q => (j ≠ 0 ∧ Builtin.divisionGoesByPylong i j = false) ∧ Q (.int (i.fdiv j))
  | .mod, .int i, .int j, Q => j ≠ 0 ∧ Q (.int (i.fmod j))
  | .pow, .int i, .int j, Q => (0 ≤ j ∧ (Builtin.Int.intBits i : Int) * j ≤ 134217728) ∧ Q (.int (i ^ j.toNat))
  | _, _, _, _ => False
def wCmp : Cm → D → D → (D → Prop) → Prop
  | .eq, x, y, Q => ∃ d e, x.dat 60 = some d ∧ y.dat 60 = some e ∧ canon d = true ∧ canon e = true ∧ Q (.bl (PyData.eqv d e))
  | .ne, x, y, Q => ∃ d e, x.dat 60 = some d ∧ y.dat 60 = some e ∧ canon d = true ∧ canon e = true ∧ Q (.bl (!PyData.eqv d e))
  | .lt, .int i, .int j, Q => Q (.bl (decide (i < j)))
  | .le, .int i, .int j, Q => Q (.bl (decide (i ≤ j)))
  | .gt, .int i, .int j, Q => Q (.bl (decide (j < i)))
  | .ge, .int i, .int j, Q => Q (.bl (decide (j ≤ i)))
  | .is_, x, .non, Q => Q (.bl (match x with | .non => true | _ => false))
  | .isn, x, .non, Q => Q (.bl (match x with | .non => false | _ => true))
  | .is_, .bl a, .bl b, Q => Q (.bl (a == b))
  | .isn, .bl a, .bl b, Q => Q (.bl (!(a == b)))
  | .in_, x, y, Q => ∃ xs, y.seq = some xs ∧ x.flat = true ∧ D.allFlat xs = true ∧ Q (.bl (D.inF x xs))
  | .nin, x, y, Q => ∃ xs, y.seq = some xs ∧ x.flat = true ∧ D.allFlat xs = true ∧ Q (.bl (!D.inF x xs))
  | _, _, _, _ => False
def wSub : D → D → (D → Prop) → Prop
  | .lst _ xs, .int i, Q => ∃ d, atA xs i = some d ∧ Q d
  | .tup xs, .int i, Q => ∃ d, atA xs i = some d ∧ Q d
  | .str s, .int i, Q => s.length ≤ lineN ∧ ∃ c, atA s.cps.toList i = some c ∧ Q (.str ⟨#[c]⟩)
  | _, _, _ => False
def wCut : D → Option Int → Option Int → (D → Prop) → Prop
  | .lst _ xs, lo, hi, Q => Q (.lst true (cutA xs lo hi))
  | _, _, _, _ => False
def D.bt : D → Option BT
  | .non => some .none | .bl _ => some .bool | .int _ => some .int | .str _ => some .str | .lst _ _ => some .list | .tup _ => some .tuple | .dct => some .dict | .pur _ => none
def D.tru : D → Option Bool
  | .non => some false
  | .bl b => some b
  | .int i => some (i != 0)
  | .str s => if Nat.ble s.length lineN then some ((s.length : Int) != 0) else none
  | .lst _ xs => some (!xs.isEmpty)
  | .tup xs => some (!xs.isEmpty)
  | .dct => some false
  | .pur _ => none
def D.ln : D → Option Nat
  | .str s => if Nat.ble s.length lineN then some s.length else none
  | .lst _ xs => some xs.length
  | .tup xs => some xs.length
  | _ => none
def wBi : Bi → List D → (D → Prop) → Prop
  | .len, [x], Q => ∃ n, x.ln = some n ∧ Q (.int n)
  | .max2, [.int i, .int j], Q => Q (.int (if i < j then j else i))
  | .min2, [.int i, .int j], Q => Q (.int (if j < i then j else i))
  | .abs, [.int i], Q => Q (.int (if i < 0 then -i else i))
  | .int1, [.int i], Q => Q (.int i)
  | .int1, [.bl b], Q => Q (.int (if b then 1 else 0))
  | .all, [x], Q => ∃ bs, x.lsq.bind D.bls = some bs ∧ Q (.bl (band bs))
  | .any, [x], Q => ∃ bs, x.lsq.bind D.bls = some bs ∧ Q (.bl (bor bs))
  | .sum, [x], Q => ∃ ns, x.lsq.bind D.ints = some ns ∧ Q (.int (isum ns))
  | .max1, [x], Q => ∃ n ns, x.lsq.bind D.ints = some (n :: ns) ∧ Q (.int (imax n ns))
  | .min1, [x], Q => ∃ n ns, x.lsq.bind D.ints = some (n :: ns) ∧ Q (.int (imin n ns))
  | .sorted, [x], Q => ∃ ns, x.lsq.bind D.ints = some ns ∧ Q (.lst true ((isort ns).map .int))
  | .list, [x], Q => ∃ xs, x.seq = some xs ∧ Q (.lst true xs)
  | .tuple, [.lst _ xs], Q => Q (.tup xs)
  | .tuple, [.tup xs], Q => Q (.tup xs)
  | .repr, [x], Q => ∃ d, x.dat 60 = some d ∧ smallD d = true ∧ (reprD d).length ≤ lineN ∧ Q (.str (reprD d))
  | _, _, _ => False
def wMt : Mt → D → List D → (D → Prop) → Prop
  | .count, x, [.int k], Q => ∃ ns, x.lsq.bind D.ints = some ns ∧ Q (.int (icount k ns))
  | .bitLength, .int i, [], Q => Q (.int (Builtin.Int.intBits i : Nat))
  | _, _, _, _ => False
def wRng : List D → (List D → Prop) → Prop
  | [.int j], Q => (-(2 ^ 62) ≤ j ∧ j < 2 ^ 62) ∧ Q ((List.range j.toNat).map fun i => .int (0 + (i : Nat)))
  | [.int i, .int j], Q => (-(2 ^ 62) ≤ i ∧ i < 2 ^ 62 ∧ -(2 ^ 62) ≤ j ∧ j < 2 ^ 62) ∧ Q ((List.range (j - i).toNat).map fun n => .int (i + (n : Nat)))
  | _, _ => False
def D.itm : D → Option (List D)
  | .lst _ xs => some xs
  | .tup xs => some xs
  | .str s => some (s.cps.toList.map fun c => .str ⟨#[c]⟩)
  | _ => none
def enumD : List D → Nat → List D
  | [], _ => []
  | d :: ds, i => .tup [.int i, d] :: enumD ds (i + 1)
def zipD : List D → List D → List D
  | a :: as, b :: bs => .tup [a, b] :: zipD as bs
  | _, _ => []
def wLc (as : D → (PEnv → Prop) → Prop) (tt : PEnv → (Bool → Prop) → Prop) (el : PEnv → (D → Prop) → Prop) : List D → List D → (D → Prop) → Prop
  | [], acc, Q => acc.length ≤ lineN ∧ Q (.lst true acc.reverse)
  | x :: xs, acc, Q => as x fun δ => tt δ fun b => match b with
    | true => el δ fun y => wLc as tt el xs (y :: acc) Q
    | false => wLc as tt el xs acc Q
def wipeD (δ : PEnv) : List Nat → PEnv
  | [] => δ
  | v :: vs => (wipeD δ vs).set v none
def mapAtD (vs : List D) : List Nat → Option (List D)
  | [] => some []
  | i :: is => match vs[i]?, mapAtD vs is with
    | some v, some r => some (v :: r)
    | _, _ => none
/-- one end of a slice -/
def wpP (b : Bool) (w : (D → Prop) → Prop) (Q : Option Int → Prop) : Prop := match b with
  | true => Q none
  | false => w fun x => ∃ i, x = .int i ∧ Q (some i)
/-- defaults that are literals -/
def dvD : List Vl → Option (List D)
  | [] => some []
  | .non :: r => (dvD r).map (.non :: ·)
  | .bl b :: r => (dvD r).map (.bl b :: ·)
  | .int i :: r => (dvD r).map (.int i :: ·)
  | .str s :: r => (dvD r).map (.str s :: ·)
  | _ :: _ => none
abbrev WCl := Nat → List D → (D → Prop) → Prop
section
variable (wc : WCl)
mutual
def wpE : E → PEnv → (D → Prop) → Prop
  | .bad, _, _ => False
  | .glo _, _, _ => False
  | .non, _, Q => Q .non
  | .bl b, _, Q => Q (.bl b)
  | .int i, _, Q => Q (.int i)
  | .str s, _, Q => Q (.str ⟨s.toArray⟩)
  | .var i, δ, Q => ∃ d, δ[i]? = some (some d) ∧ Q d
  | .bin o a b, δ, Q => wpE a δ fun x => wpE b δ fun y => wBin o x y Q
  | .neg a, δ, Q => wpE a δ fun x => ∃ i, x = .int i ∧ Q (.int (-i))
  | .not a, δ, Q => wpE a δ fun x => ∃ b, x.tru = some b ∧ Q (.bl (!b))
  | .and a b, δ, Q => wpE a δ fun x => ∃ t, x = .bl t ∧ (match t with
    | true => wpE b δ Q
    | false => Q (.bl false))
  | .or a b, δ, Q => wpE a δ fun x => ∃ t, x = .bl t ∧ (match t with
    | true => Q (.bl true)
    | false => wpE b δ Q)
  | .cmp c a b, δ, Q => wpE a δ fun x => wpE b δ fun y => wCmp c x y Q
  | .chn c d a b e, δ, Q => wpE a δ fun x => wpE b δ fun y => wCmp c x y fun z => ∃ t, z = .bl t ∧ (match t with
    | true => wpE e δ fun u => wCmp d y u Q
    | false => Q (.bl false))
  | .ite c a b, δ, Q => wpT c δ fun t => match t with
    | true => wpE a δ Q
    | false => wpE b δ Q
  | .lst es, δ, Q => wpA es δ fun xs => xs.length ≤ lineN ∧ Q (.lst true xs)
  | .tup es, δ, Q => wpA es δ fun xs => xs.length ≤ lineN ∧ Q (.tup xs)
  | .sub a b, δ, Q => wpE a δ fun x => wpE b δ fun y => wSub x y Q
  | .cut a lo hi, δ, Q => wpE a δ fun x => wpP (isBad lo) (wpE lo δ) fun l => wpP (isBad hi) (wpE hi δ) fun h => wCut x l h Q
  | .call f es dv, δ, Q => wpA es δ fun xs => ∃ ds, dvD dv = some ds ∧ wc f (xs ++ ds) Q
  | .callK f es ks pm, δ, Q => wpA es δ fun xs => wpA ks δ fun ys => ∃ zs, mapAtD (xs ++ ys) pm = some zs ∧ wc f zs Q
  | .bi b es, δ, Q => wpA es δ fun xs => wBi b xs Q
  | .isi a ts _, δ, Q => wpE a δ fun x => ∃ t, x.bt = some t ∧ Q (.bl (anyBT t ts))
  | .mt m a es, δ, Q => wpE a δ fun x => (match m with
    | .bitLength => True
    | _ => x.lsq.isSome = true) ∧ wpA es δ fun xs => wMt m x xs Q
  | .lc own tg it ifs elt, δ, Q => wpI it δ fun xs => xs.length < LF ∧ wLc (fun x K => wpG tg x (wipeD δ own) K) (fun δ' K => wpT ifs δ' K) (fun δ' K => wpE elt δ' K) xs [] Q
  | .dict0, _, Q => Q .dct
  | .lrg es, δ, Q => wpA es δ fun xs => wRng xs fun ys => ys.length ≤ lineN ∧ Q (.lst true ys)
termination_by structural x => x
def wpA : Es → PEnv → (List D → Prop) → Prop
  | .nil, _, Q => Q []
  | .cons e r, δ, Q => wpE e δ fun x => wpA r δ fun xs => Q (x :: xs)
termination_by structural x => x
def wpT : Tt → PEnv → (Bool → Prop) → Prop
  | .yes, _, Q => Q true
  | .not a, δ, Q => wpT a δ fun b => Q (!b)
  | .and a b, δ, Q => wpT a δ fun t => match t with
    | true => wpT b δ Q
    | false => Q false
  | .or a b, δ, Q => wpT a δ fun t => match t with
    | true => Q true
    | false => wpT b δ Q
  | .cmp c a b, δ, Q => wpE a δ fun x => wpE b δ fun y => wCmp c x y fun z => ∃ t, z = .bl t ∧ Q t
  | .chn c d a b e, δ, Q => wpE a δ fun x => wpE b δ fun y => wCmp c x y fun z => ∃ t, z = .bl t ∧ (match t with
    | true => wpE e δ fun u => wCmp d y u fun w => ∃ r, w = .bl r ∧ Q r
    | false => Q false)
  | .val e, δ, Q => wpE e δ fun x => ∃ b, x.tru = some b ∧ Q b
termination_by structural x => x
def wpG : Tg → D → PEnv → (PEnv → Prop) → Prop
  | .name i, d, δ, Q => Q (δ.set i (some d))
  | .tup ts, d, δ, Q => ∃ xs, d.seq = some xs ∧ xs.length = ts.len ∧ wpGs ts xs δ Q
  | .sub _ _, _, _, _ => False
termination_by structural x => x
def wpGs : Tgs → List D → PEnv → (PEnv → Prop) → Prop
  | .nil, [], δ, Q => Q δ
  | .cons t r, x :: xs, δ, Q => wpG t x δ fun δ1 => wpGs r xs δ1 Q
  | _, _, _, _ => False
termination_by structural x => x
def wpI : MP.It → PEnv → (List D → Prop) → Prop
  | .seq e, δ, Q => wpE e δ fun x => ∃ xs, x.itm = some xs ∧ Q xs
  | .rng es, δ, Q => wpA es δ fun xs => wRng xs Q
  | .enum e, δ, Q => wpE e δ fun x => ∃ xs, x.lsq = some xs ∧ Q (enumD xs 0)
  | .zip a b, δ, Q => wpE a δ fun x => wpE b δ fun y => (match x, y with
    | .lst _ xs, .lst _ ys => Q (zipD xs ys)
    | .tup xs, .tup ys => Q (zipD xs ys)
    | _, _ => False)
termination_by structural x => x
end
end
end MP
namespace MP
open PySem
section
variable {C : Wc} {b : Nat} {S : Sto} {u v : Vl} {x y : D} {Q : D → Prop}
theorem Ok.vl {d : D} {v : Vl} (p : PuOk C b S) (q : Q d) (rl : Is C S d v) : Ok C b 0 S (.ok v S) (Is C) Q := Ok.ret p rl q
theorem Ok.newT {xs : List D} {vs : List Vl} (p : PuOk C b S) (h : IsL C S xs vs) (l : xs.length ≤ lineN) (q : Q (.tup xs)) : Ok C b 0 S (MP.newT vs S) (Is C) Q := by
  unfold MP.newT
  rw [if_pos (by rw [IsL.len h]; exact Nat.ble_eq_true_of_le l)]
  exact ⟨_, _, .tup xs, rfl, Kp.push _, p.push _, ⟨S.n, vs, rfl, by rw [Sto.get_push, if_pos rfl], p.nu, IsL.kp (Kp.push _) xs h⟩, q⟩
theorem Ok.pushL {xs : List D} {vs : List Vl} (p : PuOk C b S) (h : IsL C S xs vs) (q : Q (.lst true xs)) : Ok C b 0 S (.ok (.ref S.n) (S.push (.lst vs))) (Is C) Q := by
  refine ⟨_, _, .lst true xs, rfl, Kp.push _, p.push _, ⟨S.n, vs, rfl, by rw [Sto.get_push, if_pos rfl], p.nu, ?_, IsL.kp (Kp.push _) xs h⟩, q⟩
  exact (decide_eq_true p.2).symm
theorem wBin_ok {o : Op2} (h : wBin o x y Q) (hx : Is C S x u) (hy : Is C S y v) (p : PuOk C b S) : Ok C b 0 S (binS o u v S) (Is C) Q := by
  match o, x, y, h with
  | .add, .int i, .int j, h => cases hx; cases hy; exact Ok.vl p h rfl
  | .sub, .int i, .int j, h => cases hx; cases hy; exact Ok.vl p h rfl
  | .add, .str i, .str j, h =>
    cases hx; cases hy
    simp only [binS]
    rw [if_pos (Nat.ble_eq_true_of_le h.1)]
    exact Ok.vl p h.2 rfl
  | .mul, .int i, .int j, h =>
    cases hx; cases hy
    simp only [binS]
    rw [if_pos h.1]
    exact Ok.vl p h.2 rfl
  | .fdiv, .int i, .int j, h =>
    cases hx; cases hy
    simp only [binS]
    rw [if_pos (by rw [decide_eq_true h.1.1, h.1.2]; rfl)]
    exact Ok.vl p h.2 rfl
  | .mod, .int i, .int j, h =>
    cases hx; cases hy
    simp only [binS]
    rw [if_pos (decide_eq_true h.1)]
    exact Ok.vl p h.2 rfl
  | .pow, .int i, .int j, h =>
    cases hx; cases hy
    simp only [binS]
    rw [if_pos (by rw [decide_eq_true h.1.1, decide_eq_true h.1.2]; rfl)]
    exact Ok.vl p h.2 rfl
  | .add, .lst t xs, .lst t' ys, h =>
    obtain ⟨n, vs, rfl, g, pn, ht, hl⟩ := hx
    obtain ⟨m, ws, rfl, g', pn', ht', hl'⟩ := hy
    simp only [binS, g, g']
    exact Ok.newL p (hl.app hl') (by rw [List.length_append]; exact h.1) h.2
  | .add, .tup (a :: xs), .tup (c :: ys), h =>
    obtain ⟨n, vs, rfl, g, pn, hl⟩ := hx
    obtain ⟨m, ws, rfl, g', pn', hl'⟩ := hy
    have all := hl.app hl'
    obtain ⟨v1, r1, rfl, _, _⟩ := hl
    obtain ⟨v2, r2, rfl, _, _⟩ := hl'
    simp only [binS, g, g']
    exact Ok.newT p all (by rw [List.length_append, List.length_cons, List.length_cons]; exact h.1) h.2
  | .mul, .lst t xs, .int k, h =>
    obtain ⟨n, vs, rfl, g, pn, ht, hl⟩ := hx
    cases hy
    simp only [binS, g]
    rw [if_pos (by rw [decide_eq_true h.1.1, decide_eq_true h.1.2.1, IsL.len hl, Nat.ble_eq_true_of_le h.1.2.2]; rfl)]
    exact Ok.pushL p (hl.rep _) h.2
theorem wCmp_ok {o : Cm} (h : wCmp o x y Q) (hx : Is C S x u) (hy : Is C S y v) (p : PuOk C b S) : Ok C b 0 S (cmpS o u v S) (Is C) Q := by
  match o, x, y, h with
  | .eq, x, y, ⟨d, e, h1, h2, h3, h4, q⟩ =>
    simp only [cmpS, eqS, hx.dat 60 h1, hy.dat 60 h2, h3, h4, Bool.and_self, if_true]
    exact Ok.vl p q rfl
  | .ne, x, y, ⟨d, e, h1, h2, h3, h4, q⟩ =>
    simp only [cmpS, eqS, hx.dat 60 h1, hy.dat 60 h2, h3, h4, Bool.and_self, if_true]
    exact Ok.vl p q rfl
  | .lt, .int i, .int j, h => cases hx; cases hy; exact Ok.vl p h rfl
  | .le, .int i, .int j, h => cases hx; cases hy; exact Ok.vl p h rfl
  | .gt, .int i, .int j, h => cases hx; cases hy; exact Ok.vl p h rfl
  | .ge, .int i, .int j, h => cases hx; cases hy; exact Ok.vl p h rfl
  | .is_, x, .non, h =>
    cases hy
    cases x with
    | lst t xs => obtain ⟨n, vs, rfl, _⟩ := hx; exact Ok.vl p h rfl
    | tup xs => obtain ⟨n, vs, rfl, _⟩ := hx; exact Ok.vl p h rfl
    | dct => obtain ⟨n, rfl, _⟩ := hx; exact Ok.vl p h rfl
    | pur n => obtain ⟨rfl, _⟩ := hx; exact Ok.vl p h rfl
    | _ => cases hx; exact Ok.vl p h rfl
  | .isn, x, .non, h =>
    cases hy
    cases x with
    | lst t xs => obtain ⟨n, vs, rfl, _⟩ := hx; exact Ok.vl p h rfl
    | tup xs => obtain ⟨n, vs, rfl, _⟩ := hx; exact Ok.vl p h rfl
    | dct => obtain ⟨n, rfl, _⟩ := hx; exact Ok.vl p h rfl
    | pur n => obtain ⟨rfl, _⟩ := hx; exact Ok.vl p h rfl
    | _ => cases hx; exact Ok.vl p h rfl
  | .is_, .bl i, .bl j, h => cases hx; cases hy; exact Ok.vl p h rfl
  | .isn, .bl i, .bl j, h => cases hx; cases hy; exact Ok.vl p h rfl
  | .in_, x, y, ⟨xs, h1, h2, h3, q⟩ =>
    obtain ⟨vs, h4, h5⟩ := hy.seq h1
    simp only [cmpS, h4, hx.flat h2, h5.flat h3, Bool.and_self, if_true]
    rw [IsL.inF hx h2 h5 h3]
    exact Ok.vl p q rfl
  | .nin, x, y, ⟨xs, h1, h2, h3, q⟩ =>
    obtain ⟨vs, h4, h5⟩ := hy.seq h1
    simp only [cmpS, h4, hx.flat h2, h5.flat h3, Bool.and_self, if_true]
    rw [IsL.inF hx h2 h5 h3]
    exact Ok.vl p q rfl
theorem wSub_ok (h : wSub x y Q) (hx : Is C S x u) (hy : Is C S y v) (p : PuOk C b S) : Ok C b 0 S (subS u v S) (Is C) Q := by
  match x, y, h with
  | .lst t xs, .int i, ⟨d, h1, q⟩ =>
    obtain ⟨n, vs, rfl, g, pn, ht, hl⟩ := hx
    cases hy
    obtain ⟨w, h2, h3⟩ := hl.ix h1
    simp only [subS, g, h2]
    exact Ok.ret p h3 q
  | .tup xs, .int i, ⟨d, h1, q⟩ =>
    obtain ⟨n, vs, rfl, g, pn, hl⟩ := hx
    cases hy
    obtain ⟨w, h2, h3⟩ := hl.ix h1
    simp only [subS, g, h2]
    exact Ok.ret p h3 q
  | .str s, .int i, ⟨hl, c, h1, q⟩ =>
    cases hx
    cases hy
    have h2 : ((ixI s.cps.toList.length i).bind fun j => s.cps.toList[j]?) = some c := h1
    simp only [subS, h2]
    rw [if_pos (Nat.ble_eq_true_of_le hl)]
    exact Ok.vl p q rfl
theorem wCut_ok {lo hi : Option Int} (h : wCut x lo hi Q) (hx : Is C S x u) (p : PuOk C b S) : Ok C b 0 S (cutS u lo hi S) (Is C) Q := by
  match x, h with
  | .lst t xs, q =>
    obtain ⟨n, vs, rfl, g, pn, ht, hl⟩ := hx
    simp only [cutS, g]
    exact Ok.pushL p (hl.cut lo hi) q
theorem Is.bt {t : BT} (hx : Is C S x u) (h : x.bt = some t) : MP.bt S u = some t := by
  cases x with
  | lst t xs => obtain ⟨n, vs, rfl, g, _⟩ := hx; simp only [MP.bt, g]; exact h
  | tup xs => obtain ⟨n, vs, rfl, g, _⟩ := hx; simp only [MP.bt, g]; exact h
  | dct => obtain ⟨n, rfl, g, _⟩ := hx; simp only [MP.bt, g]; exact h
  | pur n => cases h
  | _ => cases hx; exact h
theorem isE {α β : Type} : ∀ {xs : List α} {vs : List β} {F : β → α → Prop}, Paired F vs xs → vs.isEmpty = xs.isEmpty
  | _, _, _, .nil => rfl
  | _, _, _, .cons _ _ => rfl
theorem Is.tru {t : Bool} (hx : Is C S x u) (h : x.tru = some t) : MP.truth S u = some t := by
  cases x with
  | lst t xs => obtain ⟨n, vs, rfl, g, _, _, hl⟩ := hx; simp only [MP.truth, g, isE (isL_iff.mp hl)]; exact h
  | tup xs => obtain ⟨n, vs, rfl, g, _, hl⟩ := hx; simp only [MP.truth, g, isE (isL_iff.mp hl)]; exact h
  | dct => obtain ⟨n, rfl, g, _⟩ := hx; simp only [MP.truth, g]; exact h
  | pur n => cases h
  | _ => cases hx; exact h
theorem Is.ln {n : Nat} (hx : Is C S x u) (h : x.ln = some n) : MP.lenS S u = some n := by
  cases x with
  | lst t xs => obtain ⟨n, vs, rfl, g, _, _, hl⟩ := hx; simp only [MP.lenS, g, IsL.len hl]; exact h
  | tup xs => obtain ⟨n, vs, rfl, g, _, hl⟩ := hx; simp only [MP.lenS, g, IsL.len hl]; exact h
  | str s => cases hx; exact h
  | _ => cases h
theorem lsq_ints {ns : List Int} (hx : Is C S x u) (h : x.lsq.bind D.ints = some ns) : (lstOf S u).bind intsOf = some ns := by
  cases q : x.lsq with
  | none => rw [q] at h; cases h
  | some xs =>
    rw [q] at h
    obtain ⟨vs, h1, h2⟩ := hx.lsq q
    rw [h1]
    exact h2.ints h
theorem lsq_bls {ns : List Bool} (hx : Is C S x u) (h : x.lsq.bind D.bls = some ns) : (lstOf S u).bind blsOf = some ns := by
  cases q : x.lsq with
  | none => rw [q] at h; cases h
  | some xs =>
    rw [q] at h
    obtain ⟨vs, h1, h2⟩ := hx.lsq q
    rw [h1]
    exact h2.bls h
theorem IsL.one {vs : List Vl} (h : IsL C S [x] vs) : ∃ v, vs = [v] ∧ Is C S x v := by
  obtain ⟨v, r, rfl, h1, h2⟩ := h
  cases (show r = [] from h2)
  exact ⟨v, rfl, h1⟩
theorem IsL.two {vs : List Vl} (h : IsL C S [x, y] vs) : ∃ v w, vs = [v, w] ∧ Is C S x v ∧ Is C S y w := by
  obtain ⟨v, r, rfl, h1, h2⟩ := h
  obtain ⟨w, rfl, h3⟩ := IsL.one h2
  exact ⟨v, w, rfl, h1, h3⟩
theorem wBi_ok {o : Bi} {xs : List D} {vs : List Vl} (h : wBi o xs Q) (hx : IsL C S xs vs) (p : PuOk C b S) : Ok C b 0 S (biS o vs S) (Is C) Q := by
  match o, xs, h with
  | .len, [x], ⟨n, h1, q⟩ =>
    obtain ⟨v, rfl, hv⟩ := hx.one
    simp only [biS, hv.ln h1]
    exact Ok.vl p q rfl
  | .max2, [.int i, .int j], q => obtain ⟨v, w, rfl, hv, hw⟩ := hx.two; cases hv; cases hw; exact Ok.vl p q rfl
  | .min2, [.int i, .int j], q => obtain ⟨v, w, rfl, hv, hw⟩ := hx.two; cases hv; cases hw; exact Ok.vl p q rfl
  | .abs, [.int i], q => obtain ⟨v, rfl, hv⟩ := hx.one; cases hv; exact Ok.vl p q rfl
  | .int1, [.int i], q => obtain ⟨v, rfl, hv⟩ := hx.one; cases hv; exact Ok.vl p q rfl
  | .int1, [.bl i], q => obtain ⟨v, rfl, hv⟩ := hx.one; cases hv; exact Ok.vl p q rfl
  | .all, [x], ⟨bs, h1, q⟩ =>
    obtain ⟨v, rfl, hv⟩ := hx.one
    simp only [biS, lsq_bls hv h1]
    exact Ok.vl p q rfl
  | .any, [x], ⟨bs, h1, q⟩ =>
    obtain ⟨v, rfl, hv⟩ := hx.one
    simp only [biS, lsq_bls hv h1]
    exact Ok.vl p q rfl
  | .sum, [x], ⟨bs, h1, q⟩ =>
    obtain ⟨v, rfl, hv⟩ := hx.one
    simp only [biS, lsq_ints hv h1]
    exact Ok.vl p q rfl
  | .max1, [x], ⟨n, ns, h1, q⟩ =>
    obtain ⟨v, rfl, hv⟩ := hx.one
    simp only [biS, lsq_ints hv h1]
    exact Ok.vl p q rfl
  | .min1, [x], ⟨n, ns, h1, q⟩ =>
    obtain ⟨v, rfl, hv⟩ := hx.one
    simp only [biS, lsq_ints hv h1]
    exact Ok.vl p q rfl
  | .sorted, [x], ⟨ns, h1, q⟩ =>
    obtain ⟨v, rfl, hv⟩ := hx.one
    simp only [biS, lsq_ints hv h1]
    exact Ok.pushL p (IsL.intsV _) q
  | .list, [x], ⟨ys, h1, q⟩ =>
    obtain ⟨v, rfl, hv⟩ := hx.one
    obtain ⟨ws, h2, h3⟩ := hv.seq h1
    simp only [biS, h2]
    exact Ok.pushL p h3 q
  | .tuple, [.lst t ys], q =>
    obtain ⟨v, rfl, hv⟩ := hx.one
    obtain ⟨ws, h2, h3⟩ := hv.lsq rfl
    simp only [biS, h2]
    exact ⟨_, _, .tup ys, rfl, Kp.push _, p.push _, ⟨S.n, ws, rfl, by rw [Sto.get_push, if_pos rfl], p.nu, IsL.kp (Kp.push _) ys h3⟩, q⟩
  | .tuple, [.tup ys], q =>
    obtain ⟨v, rfl, hv⟩ := hx.one
    obtain ⟨ws, h2, h3⟩ := hv.seq rfl
    have h4 : lstOf S v = none := by
      obtain ⟨n, vs, rfl, g, _⟩ := hv
      simp only [lstOf, g]
    simp only [biS, h2, h4]
    exact Ok.ret p hv q
  | .repr, [x], ⟨d, h1, h2, h3, q⟩ =>
    obtain ⟨v, rfl, hv⟩ := hx.one
    simp only [biS, hv.dat 60 h1, h2, Nat.ble_eq_true_of_le h3, Bool.and_self, if_true]
    exact Ok.vl p q rfl
theorem wMt_ok {m : Mt} {xs : List D} {vs : List Vl} (h : wMt m x xs Q) (hu : Is C S x u) (hx : IsL C S xs vs) (p : PuOk C b S) : Ok C b 0 S (mtS m u vs S) (Is C) Q := by
  match m, x, xs, h with
  | .count, x, [.int k], ⟨ns, h1, q⟩ =>
    obtain ⟨v, rfl, hv⟩ := hx.one
    cases hv
    simp only [mtS, lsq_ints hu h1]
    exact Ok.vl p q rfl
  | .bitLength, .int i, [], q =>
    cases hu
    cases (show vs = [] from hx)
    exact Ok.vl p q rfl
theorem mapAtD_ok {xs : List D} {vs : List Vl} (h : IsL C S xs vs) : ∀ {pm : List Nat} {zs : List D}, mapAtD xs pm = some zs → ∃ ws, mapAt vs pm = some ws ∧ IsL C S zs ws
  | [], zs, e => by cases e; exact ⟨[], rfl, rfl⟩
  | i :: is, zs, e => by
    unfold mapAtD at e
    cases q : xs[i]? with
    | none => rw [q] at e; cases e
    | some d =>
      cases q2 : mapAtD xs is with
      | none => rw [q, q2] at e; cases e
      | some r =>
        rw [q, q2] at e
        cases e
        obtain ⟨v, h1, h2⟩ := h.at1 q
        obtain ⟨ws, h3, h4⟩ := mapAtD_ok h q2
        exact ⟨v :: ws, by unfold mapAt; rw [h1, h3], ⟨v, ws, rfl, h2, h4⟩⟩
theorem dvD_ok : ∀ {dv : List Vl} {ds : List D}, dvD dv = some ds → IsL C S ds dv
  | [], ds, e => by cases e; rfl
  | w :: r, ds, e => by
    cases w <;> first | (cases e; done) | skip
    all_goals
      unfold dvD at e
      cases q : dvD r with
      | none => rw [q] at e; cases e
      | some z =>
        rw [q] at e
        cases e
        exact ⟨_, _, rfl, rfl, dvD_ok q⟩
end
end MP
namespace MP
open PySem
section
variable (kf : Nat → Nat)
mutual
def cE : E → Nat
  | .bin _ a b => cE a + cE b
  | .neg a => cE a
  | .not a => cE a
  | .and a b => cE a + cE b
  | .or a b => cE a + cE b
  | .cmp _ a b => cE a + cE b
  | .chn _ _ a b e => cE a + (cE b + cE e)
  | .ite c a b => cT c + (cE a + cE b)
  | .lst es => cA es
  | .tup es => cA es
  | .sub a b => cE a + cE b
  | .cut a lo hi => cE a + (cE lo + cE hi)
  | .call f es _ => cA es + kf f
  | .callK f es ks _ => cA es + (cA ks + kf f)
  | .bi _ es => cA es
  | .isi a _ _ => cE a
  | .mt _ a es => cE a + cA es
  | .lc _ tg it ifs elt => cI it + LF * (cG tg + (cT ifs + cE elt))
  | .lrg es => cA es
  | _ => 0
termination_by structural x => x
def cA : Es → Nat
  | .nil => 0
  | .cons e r => cE e + cA r
termination_by structural x => x
def cT : Tt → Nat
  | .yes => 0
  | .not a => cT a
  | .and a b => cT a + cT b
  | .or a b => cT a + cT b
  | .cmp _ a b => cE a + cE b
  | .chn _ _ a b e => cE a + (cE b + cE e)
  | .val e => cE e
termination_by structural x => x
def cG : Tg → Nat
  | .name _ => 0
  | .tup ts => cGs ts
  | .sub o i => cE o + cE i
termination_by structural x => x
def cGs : Tgs → Nat
  | .nil => 0
  | .cons t r => cG t + cGs r
termination_by structural x => x
def cI : MP.It → Nat
  | .seq e => cE e
  | .rng es => cA es
  | .enum e => cE e
  | .zip a b => cE a + cE b
termination_by structural x => x
end
end
def EnvI (C : Wc) (S : Sto) (ρ : MP.Env) (δ : PEnv) : Prop := ρ.length = δ.length ∧ ∀ (i : Nat) (d : D), δ[i]? = some (some d) → ∃ v, ρ[i]? = some (some v) ∧ Is C S d v
theorem EnvI.kp {C : Wc} {S S' : Sto} {ρ : MP.Env} {δ : PEnv} (h : EnvI C S ρ δ) (k : Kp C S S') : EnvI C S' ρ δ := ⟨h.1, fun i d e => let ⟨v, h1, h2⟩ := h.2 i d e; ⟨v, h1, Is.kp k d h2⟩⟩
theorem EnvI.set {C : Wc} {S : Sto} {ρ : MP.Env} {δ : PEnv} {v : Vl} {d : D} (h : EnvI C S ρ δ) (r : Is C S d v) (i : Nat) : EnvI C S (ρ.set i (some v)) (δ.set i (some d)) := by
  refine ⟨by rw [List.length_set, List.length_set]; exact h.1, fun j w q => ?_⟩
  rw [List.getElem?_set] at q ⊢
  by_cases e : i = j
  · rw [if_pos e] at q ⊢
    by_cases c : i < δ.length
    · rw [if_pos (by omega)] at q
      rw [if_pos (by have := h.1; omega)]
      cases q
      exact ⟨v, rfl, r⟩
    · rw [if_neg (by omega)] at q
      cases q
  · rw [if_neg e] at q ⊢
    exact h.2 j w q
theorem EnvI.wipe {C : Wc} {S : Sto} {ρ : MP.Env} {δ : PEnv} (h : EnvI C S ρ δ) : ∀ vs : List Nat, EnvI C S (MP.wipe ρ vs) (wipeD δ vs)
  | [] => h
  | v :: vs => by
    have ih := EnvI.wipe h vs
    unfold MP.wipe wipeD
    refine ⟨by rw [List.length_set, List.length_set]; exact ih.1, fun j w q => ?_⟩
    rw [List.getElem?_set] at q ⊢
    by_cases e : v = j
    · rw [if_pos e] at q
      split at q <;> cases q
    · rw [if_neg e] at q ⊢
      exact ih.2 j w q
/-- what an iterator gives -/
structure Trn (C : Wc) (S : Sto) (C' : Wc) (S' : Sto) : Prop where
  keep : ∀ i o, S.get i = some o → C.pu i = false → S'.get i = some o
  is : ∀ (d : D) (v : Vl), Is C S d v → Is C' S' d v
theorem Trn.isL {C C' : Wc} {S S' : Sto} (k : Trn C S C' S') : ∀ (ds : List D) {vs : List Vl}, IsL C S ds vs → IsL C' S' ds vs
  | [], vs, h => h
  | d :: ds, vs, ⟨v, r, e, h1, h2⟩ => ⟨v, r, e, k.is d v h1, k.isL ds h2⟩
theorem Trn.of {C : Wc} {S S' : Sto} (k : Kp C S S') : Trn C S C S' := ⟨k.keep, fun d v h => Is.kp k d h⟩
def ItI (C : Wc) (S : Sto) (xs : List D) (J : Itr) : Prop := ∀ (C' : Wc) (S' : Sto) (b i : Nat), Trn C S C' S' → PuOk C' b S' →
  (xs[i]? = none → next J i S' = some none) ∧ ∀ d, xs[i]? = some d → ∃ v S1, next J i S' = some (some (v, S1)) ∧ Kp C' S' S1 ∧ PuOk C' b S1 ∧ Is C' S1 d v
section
variable {C : Wc} {S : Sto}
theorem it_seqI {x : D} {v : Vl} {xs : List D} (h : Is C S x v) (e : x.itm = some xs) : ∃ J, seqItr S v = some J ∧ ItI C S xs J := by
  cases x with
  | lst t ys =>
    cases e
    obtain ⟨n, vs, rfl, g, pn, ht, hl⟩ := h
    refine ⟨.lst n, by simp only [seqItr, g], fun C' S' b i k p => ?_⟩
    have g' := k.keep n _ g pn
    have e1 : lstAt S' n = some vs := by unfold lstAt; rw [g']
    have hl' := k.isL _ hl
    refine ⟨fun q => ?_, fun d q => ?_⟩
    · simp only [MP.next, e1]
      have : vs[i]? = none := by rw [List.getElem?_eq_none_iff] at q ⊢; rw [IsL.len hl']; exact q
      rw [this]
    · obtain ⟨w, h1, h2⟩ := hl'.at1 q
      exact ⟨w, S', by simp only [MP.next, e1, h1], Kp.refl, p, h2⟩
  | tup ys =>
    cases e
    obtain ⟨n, vs, rfl, g, pn, hl⟩ := h
    refine ⟨.tup n, by simp only [seqItr, g], fun C' S' b i k p => ?_⟩
    have g' := k.keep n _ g pn
    have e1 : tupAt S' n = some vs := by unfold tupAt; rw [g']
    have hl' := k.isL _ hl
    refine ⟨fun q => ?_, fun d q => ?_⟩
    · simp only [MP.next, e1]
      have : vs[i]? = none := by rw [List.getElem?_eq_none_iff] at q ⊢; rw [IsL.len hl']; exact q
      rw [this]
    · obtain ⟨w, h1, h2⟩ := hl'.at1 q
      exact ⟨w, S', by simp only [MP.next, e1, h1], Kp.refl, p, h2⟩
  | str s =>
    cases e
    cases h
    refine ⟨.str s, rfl, fun C' S' b i k p => ⟨fun q => ?_, fun d q => ?_⟩⟩
    · rw [List.getElem?_map] at q
      simp only [MP.next]
      cases z : s.cps.toList[i]? with
      | none => rfl
      | some c => rw [z] at q; cases q
    · rw [List.getElem?_map] at q
      simp only [MP.next]
      cases z : s.cps.toList[i]? with
      | none => rw [z] at q; cases q
      | some c =>
        rw [z] at q
        cases q
        exact ⟨_, S', rfl, Kp.refl, p, rfl⟩
  | _ => cases e
theorem rng_at (lo : Int) (n i : Nat) : ((List.range n).map fun i => D.int (lo + (i : Nat)))[i]? = if i < n then some (.int (lo + (i : Nat))) else none := by
  rw [List.getElem?_map]
  by_cases c : i < n
  · rw [if_pos c, List.getElem?_range c]; rfl
  · rw [if_neg c, List.getElem?_eq_none_iff.mpr (by rw [List.length_range]; omega)]; rfl
theorem it_rngI (lo : Int) (n : Nat) : ItI C S ((List.range n).map fun i => .int (lo + (i : Nat))) (.rng lo n) := fun C' S' b i k p => by
  rw [rng_at]
  by_cases c : i < n
  · rw [if_pos c]
    refine ⟨fun q => (by cases q), fun d q => ?_⟩
    cases q
    exact ⟨_, S', by simp only [MP.next]; rw [if_pos (show Nat.blt i n = true from Nat.ble_eq_true_of_le c)], Kp.refl, p, rfl⟩
  · rw [if_neg c]
    refine ⟨fun _ => ?_, fun d q => by cases q⟩
    simp only [MP.next]
    rw [if_neg (show ¬ Nat.blt i n = true from fun z => c (Nat.le_of_ble_eq_true z))]
theorem enum_at : ∀ (xs : List D) (k i : Nat), (enumD xs k)[i]? = (xs[i]?).map fun d => .tup [.int ((k + i : Nat) : Int), d]
  | [], k, i => by unfold enumD; simp
  | d :: ds, k, 0 => by unfold enumD; simp
  | d :: ds, k, i + 1 => by
    unfold enumD
    rw [List.getElem?_cons_succ, List.getElem?_cons_succ, enum_at ds (k + 1) i]
    rw [show k + 1 + i = k + (i + 1) by omega]
theorem zip_at : ∀ (xs ys : List D) (i : Nat), (zipD xs ys)[i]? = (xs[i]?).bind fun a => (ys[i]?).map fun b => .tup [a, b]
  | [], ys, i => by simp [zipD]
  | a :: as, [], i => by
    simp only [zipD, List.getElem?_nil, Option.map_none]
    cases (a :: as)[i]? <;> rfl
  | a :: as, b :: bs, 0 => by simp [zipD]
  | a :: as, b :: bs, i + 1 => by
    unfold zipD
    rw [List.getElem?_cons_succ, List.getElem?_cons_succ, List.getElem?_cons_succ, zip_at as bs i]
theorem push_pair {b : Nat} {x y : D} {u v : Vl} (p : PuOk C b S) (hx : Is C S x u) (hy : Is C S y v) : Is C (S.push (.tup [u, v])) (.tup [x, y]) (.ref S.n) :=
  ⟨S.n, [u, v], rfl, by rw [Sto.get_push, if_pos rfl], p.nu, ⟨u, [v], rfl, Is.kp (Kp.push _) x hx, v, [], rfl, Is.kp (Kp.push _) y hy, rfl⟩⟩
theorem it_enumI {x : D} {v : Vl} {xs : List D} (h : Is C S x v) (e : x.lsq = some xs) : ∃ n, isLst S v = some n ∧ ItI C S (enumD xs 0) (.enum n) := by
  cases x with
  | lst t ys =>
    cases e
    obtain ⟨n, vs, rfl, g, pn, ht, hl⟩ := h
    refine ⟨n, by simp only [isLst, g], fun C' S' b i k p => ?_⟩
    have g' := k.keep n _ g pn
    have e1 : lstAt S' n = some vs := by unfold lstAt; rw [g']
    have hl' := k.isL _ hl
    rw [enum_at]
    cases q : xs[i]? with
    | none =>
      refine ⟨fun _ => ?_, fun d q => by cases q⟩
      simp only [MP.next, e1]
      have : vs[i]? = none := by rw [List.getElem?_eq_none_iff] at q ⊢; rw [IsL.len hl']; exact q
      rw [this]
    | some d =>
      refine ⟨fun q => (by cases q), fun d' q' => ?_⟩
      cases q'
      obtain ⟨w, h1, h2⟩ := hl'.at1 q
      rw [Nat.zero_add]
      exact ⟨_, _, by simp only [MP.next, e1, h1], Kp.push _, p.push _, push_pair p rfl h2⟩
  | _ => cases e
theorem it_zipI {x y : D} {u v : Vl} {xs ys : List D} (hx : Is C S x u) (hy : Is C S y v) (e1 : x.lsq = some xs) (e2 : y.lsq = some ys) : ∃ n m, isLst S u = some n ∧ isLst S v = some m ∧ ItI C S (zipD xs ys) (.zip n m) := by
  cases x with
  | lst t zs => cases y with
    | lst t' zs' =>
      cases e1; cases e2
      obtain ⟨n, vs, rfl, g, pn, ht, hl⟩ := hx
      obtain ⟨m, ws, rfl, g', pn', ht', hl'⟩ := hy
      refine ⟨n, m, by simp only [isLst, g], by simp only [isLst, g'], fun C' S' b i k p => ?_⟩
      have f1 := k.keep n _ g pn
      have f2 := k.keep m _ g' pn'
      have e1 : lstAt S' n = some vs := by unfold lstAt; rw [f1]
      have e2 : lstAt S' m = some ws := by unfold lstAt; rw [f2]
      have hl1 := k.isL _ hl
      have hl2 := k.isL _ hl'
      rw [zip_at]
      cases q : xs[i]? with
      | none =>
        refine ⟨fun _ => ?_, fun d q => by cases q⟩
        simp only [MP.next, e1, e2]
        have : vs[i]? = none := by rw [List.getElem?_eq_none_iff] at q ⊢; rw [IsL.len hl1]; exact q
        rw [this]
      | some d =>
        obtain ⟨w, h1, h2⟩ := hl1.at1 q
        cases q2 : ys[i]? with
        | none =>
          refine ⟨fun _ => ?_, fun d q => by cases q⟩
          have : ws[i]? = none := by rw [List.getElem?_eq_none_iff] at q2 ⊢; rw [IsL.len hl2]; exact q2
          simp only [MP.next, e1, e2, h1, this]
        | some d2 =>
          obtain ⟨w2, h3, h4⟩ := hl2.at1 q2
          refine ⟨fun q => (by cases q), fun d' q' => ?_⟩
          cases q'
          exact ⟨_, _, by simp only [MP.next, e1, e2, h1, h3], Kp.push _, p.push _, push_pair p h2 h4⟩
    | _ => cases e2
  | _ => cases e1
theorem it_zipTI {u v : Vl} {xs ys : List D} (hx : Is C S (.tup xs) u) (hy : Is C S (.tup ys) v) : ∃ n m, isLst S u = none ∧ isTup S u = some n ∧ isTup S v = some m ∧ ItI C S (zipD xs ys) (.zipT n m) := by
  obtain ⟨n, vs, rfl, g, pn, hl⟩ := hx
  obtain ⟨m, ws, rfl, g', pn', hl'⟩ := hy
  refine ⟨n, m, by simp only [isLst, g], by simp only [isTup, g], by simp only [isTup, g'], fun C' S' b i k p => ?_⟩
  have f1 := k.keep n _ g pn
  have f2 := k.keep m _ g' pn'
  have e1 : tupAt S' n = some vs := by unfold tupAt; rw [f1]
  have e2 : tupAt S' m = some ws := by unfold tupAt; rw [f2]
  have hl1 := k.isL _ hl
  have hl2 := k.isL _ hl'
  rw [zip_at]
  cases q : xs[i]? with
  | none =>
    refine ⟨fun _ => ?_, fun d q => by cases q⟩
    simp only [MP.next, e1, e2]
    have : vs[i]? = none := by rw [List.getElem?_eq_none_iff] at q ⊢; rw [IsL.len hl1]; exact q
    rw [this]
  | some d =>
    obtain ⟨w, h1, h2⟩ := hl1.at1 q
    cases q2 : ys[i]? with
    | none =>
      refine ⟨fun _ => ?_, fun d q => by cases q⟩
      have : ws[i]? = none := by rw [List.getElem?_eq_none_iff] at q2 ⊢; rw [IsL.len hl2]; exact q2
      simp only [MP.next, e1, e2, h1, this]
    | some d2 =>
      obtain ⟨w2, h3, h4⟩ := hl2.at1 q2
      refine ⟨fun q => (by cases q), fun d' q' => ?_⟩
      cases q'
      exact ⟨_, _, by simp only [MP.next, e1, e2, h1, h3], Kp.push _, p.push _, push_pair p h2 h4⟩
theorem wRng_ok {xs : List D} {vs : List Vl} {Q : List D → Prop} (h : wRng xs Q) (hx : IsL C S xs vs) : ∃ lo n, rngOf vs = some (lo, n) ∧ Q ((List.range n).map fun i => .int (lo + (i : Nat))) := by
  have bn : ∀ {i : Int}, -(2 ^ 62) ≤ i → i < 2 ^ 62 → bnd i = true := fun h1 h2 => by unfold bnd; rw [decide_eq_true h1, decide_eq_true h2]; rfl
  match xs, h with
  | [.int j], h =>
    obtain ⟨v, rfl, hv⟩ := hx.one
    cases hv
    exact ⟨0, j.toNat, by simp only [rngOf]; rw [if_pos (bn h.1.1 h.1.2)], h.2⟩
  | [.int i, .int j], h =>
    obtain ⟨v, w, rfl, hv, hw⟩ := hx.two
    cases hv
    cases hw
    obtain ⟨⟨h1, h2, h3, h4⟩, q⟩ := h
    exact ⟨i, (j - i).toNat, by simp only [rngOf]; rw [if_pos (by rw [bn h1 h2, bn h3 h4]; rfl)], q⟩
end
/-- a call's word is kept -/
def Snd (C : Wc) (wc : WCl) (kf : Nat → Nat) (cl : Nat → List Vl → Sto → R Vl) : Prop := ∀ (f : Nat) (xs : List D) (Q : D → Prop) (vs : List Vl) (S : Sto) (b : Nat), wc f xs Q → IsL C S xs vs → PuOk C b S → b + kf f ≤ BIG → Ok C b (kf f) S (cl f vs S) (Is C) Q
theorem Ok.newLn {C : Wc} {b N : Nat} {S : Sto} {xs : List D} {vs : List Vl} {Q : D → Prop} (p : PuOk C b S) (h : IsL C S xs vs) (l : xs.length ≤ lineN) (hN : N ≤ S.n) (q : Q (.lst true xs)) : Ok C b 0 S (MP.newL vs S) (fun S' d v => Is C S' d v ∧ ∀ n, v = .ref n → N ≤ n) Q := by
  obtain ⟨v, S1, d, e, k, p1, i1, q1⟩ := Ok.newL p h l q
  refine ⟨v, S1, d, e, k, p1, ⟨i1, fun n hv => ?_⟩, q1⟩
  unfold MP.newL at e
  split at e
  · cases e
    cases hv
    exact hN
  · cases e
theorem Ok.imp {C : Wc} {b k : Nat} {S : Sto} {α β : Type} {r : R α} {Rl Rm : Sto → β → α → Prop} {Q : β → Prop} (h : Ok C b k S r Rl Q) (g : ∀ S d v, Rl S d v → Rm S d v) : Ok C b k S r Rm Q := by
  obtain ⟨v, S1, d, e, kp, pu, rl, q⟩ := h
  exact ⟨v, S1, d, e, kp, pu, g _ _ _ rl, q⟩
theorem lc_ok {C : Wc} {as : D → (PEnv → Prop) → Prop} {tt : PEnv → (Bool → Prop) → Prop} {el : PEnv → (D → Prop) → Prop} {as' : Vl → Sto → R MP.Env} {tt' : MP.Env → Sto → R Bool} {el' : MP.Env → Sto → R Vl} {S0 : Sto} {J : Itr} {all : List D} {ka kt ke : Nat} {Q : D → Prop}
    (hJ : ItI C S0 all J)
    (ha : ∀ {x : D} {v : Vl} {S : Sto} {b : Nat} {K : PEnv → Prop}, Kp C S0 S → as x K → Is C S x v → PuOk C b S → b + ka ≤ BIG → Ok C b ka S (as' v S) (fun S' δ ρ => EnvI C S' ρ δ) K)
    (ht : ∀ {δ : PEnv} {ρ : MP.Env} {S : Sto} {b : Nat} {K : Bool → Prop}, tt δ K → EnvI C S ρ δ → PuOk C b S → b + kt ≤ BIG → Ok C b kt S (tt' ρ S) (fun _ d v => d = v) K)
    (he : ∀ {δ : PEnv} {ρ : MP.Env} {S : Sto} {b : Nat} {K : D → Prop}, el δ K → EnvI C S ρ δ → PuOk C b S → b + ke ≤ BIG → Ok C b ke S (el' ρ S) (Is C) K) :
    ∀ (m i : Nat) (xs acc : List D) (vacc : List Vl) (S : Sto) (b : Nat), xs.length < m → (∀ j, all[i + j]? = xs[j]?) → wLc as tt el xs acc Q → Kp C S0 S → IsL C S acc vacc → PuOk C b S → b + m * (ka + (kt + ke)) ≤ BIG →
      Ok C b (m * (ka + (kt + ke))) S (lcLoop as' tt' el' J m i vacc S) (fun S' d v => Is C S' d v ∧ ∀ n, v = .ref n → S0.n ≤ n) Q
  | 0, i, xs, acc, vacc, S, b, hm, hx, w, kp, ia, p, hb => absurd hm (Nat.not_lt_zero _)
  | m + 1, i, [], acc, vacc, S, b, hm, hx, w, kp, ia, p, hb => by
    rw [lc_eq, (hJ C S b i (.of kp) p).1 (by have := hx 0; simpa using this)]
    dsimp only
    exact (Ok.newLn p (ia.rev) (by rw [List.length_reverse]; exact w.1) kp.n w.2).mono (Nat.zero_le _)
  | m + 1, i, x :: xs, acc, vacc, S, b, hm, hx, w, kp, ia, p, hb => by
    obtain ⟨v, S1, h1, k1, p1, i1⟩ := (hJ C S b i (.of kp) p).2 x (by have := hx 0; simpa using this)
    rw [Nat.succ_mul] at hb
    have hw : as x fun δ => tt δ fun b => match b with
      | true => el δ fun y => wLc as tt el xs (y :: acc) Q
      | false => wLc as tt el xs acc Q := w
    obtain ⟨ρ, S2, δ, e2, k2, p2, en2, q2⟩ := ha (kp.trans k1) hw i1 p1 (by omega)
    obtain ⟨t, S3, t', e3, k3, p3, rt, q3⟩ := ht q2 en2 p2 (by omega)
    subst rt
    have kp3 := ((kp.trans k1).trans k2).trans k3
    have nx : ∀ j, all[i + 1 + j]? = xs[j]? := fun j => by
      have := hx (j + 1)
      rw [List.getElem?_cons_succ] at this
      rw [← this]
      congr 1
      omega
    have hm' : xs.length < m := by rw [List.length_cons] at hm; omega
    rw [lc_eq, h1]
    dsimp only
    rw [e2]
    dsimp only
    rw [e3]
    cases t' with
    | false =>
      dsimp only
      obtain ⟨r, S4, d4, e4, k4, p4, i4, q4⟩ := lc_ok hJ ha ht he m (i + 1) xs acc vacc S3 (b + ka + kt) hm' nx q3 kp3 (IsL.kp ((k1.trans k2).trans k3) _ ia) p3 (by omega)
      exact ⟨r, S4, d4, e4, ((k1.trans k2).trans k3).trans k4, p4.mono (by rw [Nat.succ_mul]; omega), i4, q4⟩
    | true =>
      dsimp only
      obtain ⟨y, S4, d4, e4, k4, p4, i4, q4⟩ := he q3 (en2.kp k3) p3 (by omega)
      rw [e4]
      dsimp only
      obtain ⟨r, S5, d5, e5, k5, p5, i5, q5⟩ := lc_ok hJ ha ht he m (i + 1) xs (d4 :: acc) (y :: vacc) S4 (b + ka + kt + ke) hm' nx q4 (kp3.trans k4) ⟨y, vacc, rfl, i4, IsL.kp (((k1.trans k2).trans k3).trans k4) _ ia⟩ p4 (by omega)
      exact ⟨r, S5, d5, e5, (((k1.trans k2).trans k3).trans k4).trans k5, p5.mono (by rw [Nat.succ_mul]; omega), i5, q5⟩
end MP
namespace MP
open PySem
theorem Ok.rb {C : Wc} {b : Nat} {S : Sto} {t : Bool} {Q : Bool → Prop} (p : PuOk C b S) (q : Q t) : Ok C b 0 S (.ok t S) (fun _ d v => d = v) Q := Ok.ret p rfl q
section
variable {C : Wc} {wc : WCl} {kf : Nat → Nat} {cl : Nat → List Vl → Sto → R Vl} (hc : Snd C wc kf cl)
include hc
theorem part_ok {e : E} {δ : PEnv} {ρ : MP.Env} {S : Sto} {b : Nat} {Q : Option Int → Prop} (hb : b + cE kf e ≤ BIG) (ih : ∀ {Q : D → Prop}, wpE wc e δ Q → Ok C b (cE kf e) S (ev cl e ρ S) (Is C) Q) (p : PuOk C b S)
    (h : wpP (isBad e) (wpE wc e δ) Q) : Ok C b (cE kf e) S (partR (isBad e) S (ev cl e ρ S)) (fun _ d v => d = v) Q := by
  cases q : isBad e with
  | true =>
    rw [q] at h
    exact (Ok.ret (d := none) p rfl h).mono (Nat.zero_le _)
  | false =>
    rw [q] at h
    have h : wpE wc e δ fun x => ∃ i, x = .int i ∧ Q (some i) := h
    refine (Ok.bind (k2 := 0) (ih h) fun v S1 d k1 p1 i1 ⟨i, e, q⟩ => ?_)
    subst e
    cases i1
    exact Ok.ret (d := some i) p1 rfl q
mutual
theorem sE : ∀ (e : E) {δ : PEnv} {ρ : MP.Env} {S : Sto} {b : Nat} {Q : D → Prop}, wpE wc e δ Q → EnvI C S ρ δ → PuOk C b S → b + cE kf e ≤ BIG → Ok C b (cE kf e) S (ev cl e ρ S) (Is C) Q
  | .bad, δ, ρ, S, b, Q, h, en, p, hb => False.elim h
  | .glo k, δ, ρ, S, b, Q, h, en, p, hb => False.elim h
  | .non, δ, ρ, S, b, Q, h, en, p, hb => Ok.vl (d := .non) p h rfl
  | .bl c, δ, ρ, S, b, Q, h, en, p, hb => Ok.vl (d := .bl c) p h rfl
  | .int i, δ, ρ, S, b, Q, h, en, p, hb => Ok.vl (d := .int i) p h rfl
  | .str s, δ, ρ, S, b, Q, h, en, p, hb => Ok.vl (d := .str ⟨s.toArray⟩) p h rfl
  | .var i, δ, ρ, S, b, Q, ⟨d, e, q⟩, en, p, hb => by
    obtain ⟨v, h1, h2⟩ := en.2 i d e
    unfold ev
    rw [h1]
    exact Ok.ret p h2 q
  | .bin o a c, δ, ρ, S, b, Q, h, en, p, hb => by
    have hb : b + (cE kf a + cE kf c) ≤ BIG := hb
    exact Ok.bind (sE a h en p (by omega)) fun u S1 x k1 p1 i1 q1 => Ok.bind (k2 := 0) (sE c q1 (en.kp k1) p1 (by omega)) fun v S2 y k2 p2 i2 q2 => wBin_ok q2 (Is.kp k2 _ i1) i2 p2
  | .neg a, δ, ρ, S, b, Q, h, en, p, hb => by
    have hb : b + cE kf a ≤ BIG := hb
    refine Ok.bind (k2 := 0) (sE a h en p hb) fun u S1 x k1 p1 i1 ⟨i, e, q⟩ => ?_
    subst e
    cases i1
    exact Ok.vl p1 q rfl
  | .not a, δ, ρ, S, b, Q, h, en, p, hb => by
    have hb : b + cE kf a ≤ BIG := hb
    refine Ok.bind (k2 := 0) (sE a h en p hb) fun u S1 x k1 p1 i1 ⟨t, e, q⟩ => ?_
    simp only [i1.tru e]
    exact Ok.vl p1 q rfl
  | .and a c, δ, ρ, S, b, Q, h, en, p, hb => by
    have hb : b + (cE kf a + cE kf c) ≤ BIG := hb
    refine Ok.bind (sE a h en p (by omega)) fun u S1 x k1 p1 i1 ⟨t, e, q⟩ => ?_
    subst e
    cases i1
    cases t with
    | true => exact sE c q (en.kp k1) p1 (by omega)
    | false => exact (Ok.vl p1 q rfl).mono (Nat.zero_le _)
  | .or a c, δ, ρ, S, b, Q, h, en, p, hb => by
    have hb : b + (cE kf a + cE kf c) ≤ BIG := hb
    refine Ok.bind (sE a h en p (by omega)) fun u S1 x k1 p1 i1 ⟨t, e, q⟩ => ?_
    subst e
    cases i1
    cases t with
    | false => exact sE c q (en.kp k1) p1 (by omega)
    | true => exact (Ok.vl p1 q rfl).mono (Nat.zero_le _)
  | .cmp o a c, δ, ρ, S, b, Q, h, en, p, hb => by
    have hb : b + (cE kf a + cE kf c) ≤ BIG := hb
    exact Ok.bind (sE a h en p (by omega)) fun u S1 x k1 p1 i1 q1 => Ok.bind (k2 := 0) (sE c q1 (en.kp k1) p1 (by omega)) fun v S2 y k2 p2 i2 q2 => wCmp_ok q2 (Is.kp k2 _ i1) i2 p2
  | .chn o o2 a c e, δ, ρ, S, b, Q, h, en, p, hb => by
    have hb : b + (cE kf a + (cE kf c + cE kf e)) ≤ BIG := hb
    refine Ok.bind (sE a h en p (by omega)) fun u S1 x k1 p1 i1 q1 => Ok.bind (sE c q1 (en.kp k1) p1 (by omega)) fun v S2 y k2 p2 i2 q2 => ?_
    refine (Ok.bind (k1 := 0) (k2 := cE kf e) (wCmp_ok q2 (Is.kp k2 _ i1) i2 p2) fun w S3 z k3 p3 i3 ⟨t, et, q⟩ => ?_).mono (by omega)
    subst et
    cases i3
    cases t with
    | true => exact Ok.bind (k2 := 0) (sE e q ((en.kp k1).kp (k2.trans k3)) p3 (by omega)) fun w2 S4 z4 k4 p4 i4 q4 => wCmp_ok q4 (Is.kp (k3.trans k4) _ i2) i4 p4
    | false => exact (Ok.vl p3 q rfl).mono (Nat.zero_le _)
  | .ite t a c, δ, ρ, S, b, Q, h, en, p, hb => by
    have hb : b + (cT kf t + (cE kf a + cE kf c)) ≤ BIG := hb
    refine Ok.bind (sT t h en p (by omega)) fun u S1 x k1 p1 i1 q1 => ?_
    subst i1
    cases x with
    | true => exact (sE a q1 (en.kp k1) p1 (by omega)).mono (by omega)
    | false => exact (sE c q1 (en.kp k1) p1 (by omega)).mono (by omega)
  | .lst es, δ, ρ, S, b, Q, h, en, p, hb => by
    have hb : b + cA kf es ≤ BIG := hb
    exact Ok.bind (k2 := 0) (sA es h en p hb) fun u S1 x k1 p1 i1 q1 => Ok.newL p1 i1 q1.1 q1.2
  | .tup es, δ, ρ, S, b, Q, h, en, p, hb => by
    have hb : b + cA kf es ≤ BIG := hb
    exact Ok.bind (k2 := 0) (sA es h en p hb) fun u S1 x k1 p1 i1 q1 => Ok.newT p1 i1 q1.1 q1.2
  | .sub a c, δ, ρ, S, b, Q, h, en, p, hb => by
    have hb : b + (cE kf a + cE kf c) ≤ BIG := hb
    exact Ok.bind (sE a h en p (by omega)) fun u S1 x k1 p1 i1 q1 => Ok.bind (k2 := 0) (sE c q1 (en.kp k1) p1 (by omega)) fun v S2 y k2 p2 i2 q2 => wSub_ok q2 (Is.kp k2 _ i1) i2 p2
  | .cut a lo hi, δ, ρ, S, b, Q, h, en, p, hb => by
    have hb : b + (cE kf a + (cE kf lo + cE kf hi)) ≤ BIG := hb
    refine Ok.bind (sE a h en p (by omega)) fun u S1 x k1 p1 i1 q1 => ?_
    refine Ok.bind (part_ok hc (by omega) (fun w => sE lo w (en.kp k1) p1 (by omega)) p1 q1) fun l S2 l' k2 p2 i2 q2 => ?_
    refine Ok.bind (k2 := 0) (part_ok hc (by omega) (fun w => sE hi w ((en.kp k1).kp k2) p2 (by omega)) p2 q2) fun r S3 r' k3 p3 i3 q3 => ?_
    subst i2 i3
    exact wCut_ok q3 (Is.kp (k2.trans k3) _ i1) p3
  | .call f es dv, δ, ρ, S, b, Q, h, en, p, hb => by
    have hb : b + (cA kf es + kf f) ≤ BIG := hb
    exact Ok.bind (sA es h en p (by omega)) fun u S1 x k1 p1 i1 ⟨ds, e, q⟩ => hc f _ Q _ S1 _ q (i1.app (dvD_ok e)) p1 (by omega)
  | .callK f es ks pm, δ, ρ, S, b, Q, h, en, p, hb => by
    have hb : b + (cA kf es + (cA kf ks + kf f)) ≤ BIG := hb
    refine Ok.bind (sA es h en p (by omega)) fun u S1 x k1 p1 i1 q1 => Ok.bind (sA ks q1 (en.kp k1) p1 (by omega)) fun v S2 y k2 p2 i2 ⟨zs, e, q⟩ => ?_
    obtain ⟨ws, h1, h2⟩ := mapAtD_ok (IsL.app (IsL.kp k2 _ i1) i2) e
    simp only [h1]
    exact hc f _ Q _ S2 _ q h2 p2 (by omega)
  | .bi o es, δ, ρ, S, b, Q, h, en, p, hb => by
    have hb : b + cA kf es ≤ BIG := hb
    exact Ok.bind (k2 := 0) (sA es h en p hb) fun u S1 x k1 p1 i1 q1 => wBi_ok q1 i1 p1
  | .isi a ts one, δ, ρ, S, b, Q, h, en, p, hb => by
    have hb : b + cE kf a ≤ BIG := hb
    refine Ok.bind (k2 := 0) (sE a h en p hb) fun u S1 x k1 p1 i1 ⟨t, e, q⟩ => ?_
    simp only [i1.bt e]
    exact Ok.vl p1 q rfl
  | .mt m a es, δ, ρ, S, b, Q, h, en, p, hb => by
    have hb : b + (cE kf a + cA kf es) ≤ BIG := hb
    refine Ok.bind (sE a h en p (by omega)) fun u S1 x k1 p1 i1 ⟨q0, q⟩ => ?_
    have fin : mtTy m S1 u = true → Ok C (b + cE kf a) (cA kf es) S1 (if mtTy m S1 u = true then (evs cl es ρ S1).bind fun vs S2 => mtS m u vs S2 else .bad) (Is C) Q := fun c => by
      rw [if_pos c]
      exact Ok.bind (k2 := 0) (sA es q (en.kp k1) p1 (by omega)) fun v S2 ys k2 p2 i2 q2 => wMt_ok q2 (Is.kp k2 _ i1) i2 p2
    refine fin ?_
    have lq : x.lsq.isSome = true → (lstOf S1 u).isSome = true := fun z => by
      cases e : x.lsq with
      | none => rw [e] at z; cases z
      | some ys =>
        obtain ⟨vs, h1, _⟩ := i1.lsq e
        rw [h1]
        rfl
    cases m with
    | bitLength =>
      obtain ⟨_, _, d, e, _, _, _, q3⟩ := sA es q (en.kp k1) p1 (by omega)
      cases x <;> first | (exact False.elim q3) | skip
      cases i1
      rfl
    | _ => exact lq q0
  | .lc own tg it ifs elt, δ, ρ, S, b, Q, h, en, p, hb => by
    have hb : b + (cI kf it + LF * (cG kf tg + (cT kf ifs + cE kf elt))) ≤ BIG := hb
    refine Ok.bind (sI it h en p (by omega)) fun J S1 xs k1 p1 i1 ⟨hl, q⟩ => ?_
    have en1 := (en.kp k1).wipe own
    exact (lc_ok i1 (fun {x v S b K} kk w ix pp bb => sG tg w (en1.kp kk) ix pp bb) (fun {δ' ρ' S b K} w e pp bb => sT ifs w e pp bb) (fun {δ' ρ' S b K} w e pp bb => sE elt w e pp bb) LF 0 xs [] [] S1 _ hl (fun j => by rw [Nat.zero_add]) q Kp.refl rfl p1 (by omega)).imp fun _ _ _ h => h.1
  | .dict0, δ, ρ, S, b, Q, h, en, p, hb => ⟨_, _, .dct, rfl, Kp.push _, p.push _, ⟨S.n, rfl, by rw [Sto.get_push, if_pos rfl], p.nu⟩, h⟩
  | .lrg es, δ, ρ, S, b, Q, h, en, p, hb => by
    have hb : b + cA kf es ≤ BIG := hb
    refine Ok.bind (k2 := 0) (sA es h en p hb) fun u S1 x k1 p1 i1 q1 => ?_
    obtain ⟨lo, n, h1, h2, h3⟩ := wRng_ok q1 i1
    simp only [h1]
    rw [List.length_map, List.length_range] at h2
    rw [if_pos (Nat.ble_eq_true_of_le h2)]
    refine Ok.pushL p1 ?_ h3
    have all : ∀ l : List Nat, IsL C S1 (l.map fun i => D.int (lo + (i : Nat))) (l.map fun i => Vl.int (lo + (i : Nat))) := fun l => by
      induction l with
      | nil => rfl
      | cons a r ih => exact ⟨_, _, rfl, rfl, ih⟩
    exact all _
termination_by structural x => x
theorem sA : ∀ (e : Es) {δ : PEnv} {ρ : MP.Env} {S : Sto} {b : Nat} {Q : List D → Prop}, wpA wc e δ Q → EnvI C S ρ δ → PuOk C b S → b + cA kf e ≤ BIG → Ok C b (cA kf e) S (evs cl e ρ S) (fun S' => IsL C S') Q
  | .nil, δ, ρ, S, b, Q, h, en, p, hb => Ok.ret (d := []) p rfl h
  | .cons e r, δ, ρ, S, b, Q, h, en, p, hb => by
    have hb : b + (cE kf e + cA kf r) ≤ BIG := hb
    exact Ok.bind (sE e h en p (by omega)) fun u S1 x k1 p1 i1 q1 => Ok.bind (k2 := 0) (sA r q1 (en.kp k1) p1 (by omega)) fun v S2 y k2 p2 i2 q2 => Ok.ret (d := x :: y) p2 ⟨u, v, rfl, Is.kp k2 _ i1, i2⟩ q2
termination_by structural x => x
theorem sT : ∀ (e : Tt) {δ : PEnv} {ρ : MP.Env} {S : Sto} {b : Nat} {Q : Bool → Prop}, wpT wc e δ Q → EnvI C S ρ δ → PuOk C b S → b + cT kf e ≤ BIG → Ok C b (cT kf e) S (tst cl e ρ S) (fun _ d v => d = v) Q
  | .yes, δ, ρ, S, b, Q, h, en, p, hb => Ok.rb p h
  | .not a, δ, ρ, S, b, Q, h, en, p, hb => by
    have hb : b + cT kf a ≤ BIG := hb
    refine Ok.bind (k2 := 0) (sT a h en p hb) fun u S1 x k1 p1 i1 q1 => ?_
    subst i1
    exact Ok.rb p1 q1
  | .and a c, δ, ρ, S, b, Q, h, en, p, hb => by
    have hb : b + (cT kf a + cT kf c) ≤ BIG := hb
    refine Ok.bind (sT a h en p (by omega)) fun u S1 x k1 p1 i1 q1 => ?_
    subst i1
    cases x with
    | true => exact sT c q1 (en.kp k1) p1 (by omega)
    | false => exact (Ok.rb p1 q1).mono (Nat.zero_le _)
  | .or a c, δ, ρ, S, b, Q, h, en, p, hb => by
    have hb : b + (cT kf a + cT kf c) ≤ BIG := hb
    refine Ok.bind (sT a h en p (by omega)) fun u S1 x k1 p1 i1 q1 => ?_
    subst i1
    cases x with
    | false => exact sT c q1 (en.kp k1) p1 (by omega)
    | true => exact (Ok.rb p1 q1).mono (Nat.zero_le _)
  | .cmp o a c, δ, ρ, S, b, Q, h, en, p, hb => by
    have hb : b + (cE kf a + cE kf c) ≤ BIG := hb
    refine Ok.bind (sE a h en p (by omega)) fun u S1 x k1 p1 i1 q1 => Ok.bind (k2 := 0) (sE c q1 (en.kp k1) p1 (by omega)) fun v S2 y k2 p2 i2 q2 => ?_
    refine Ok.bind (k1 := 0) (k2 := 0) (wCmp_ok q2 (Is.kp k2 _ i1) i2 p2) fun w S3 z k3 p3 i3 ⟨t, et, q⟩ => ?_
    subst et
    cases i3
    exact Ok.ret p3 rfl q
  | .chn o o2 a c e, δ, ρ, S, b, Q, h, en, p, hb => by
    have hb : b + (cE kf a + (cE kf c + cE kf e)) ≤ BIG := hb
    refine Ok.bind (sE a h en p (by omega)) fun u S1 x k1 p1 i1 q1 => Ok.bind (sE c q1 (en.kp k1) p1 (by omega)) fun v S2 y k2 p2 i2 q2 => ?_
    refine (Ok.bind (k1 := 0) (k2 := cE kf e) (wCmp_ok q2 (Is.kp k2 _ i1) i2 p2) fun w S3 z k3 p3 i3 ⟨t, et, q⟩ => ?_).mono (by omega)
    subst et
    cases i3
    cases t with
    | true =>
      refine Ok.bind (k2 := 0) (sE e q ((en.kp k1).kp (k2.trans k3)) p3 (by omega)) fun w2 S4 z4 k4 p4 i4 q4 => Ok.bind (k1 := 0) (k2 := 0) (wCmp_ok q4 (Is.kp (k3.trans k4) _ i2) i4 p4) fun w5 S5 z5 k5 p5 i5 ⟨t5, e5, q5⟩ => ?_
      subst e5
      cases i5
      exact Ok.ret p5 rfl q5
    | false => exact (Ok.rb p3 q).mono (Nat.zero_le _)
  | .val e, δ, ρ, S, b, Q, h, en, p, hb => by
    have hb : b + cE kf e ≤ BIG := hb
    refine Ok.bind (k2 := 0) (sE e h en p hb) fun u S1 x k1 p1 i1 ⟨t, e, q⟩ => ?_
    simp only [i1.tru e]
    exact Ok.ret p1 rfl q
termination_by structural x => x
theorem sG : ∀ (t : Tg) {d : D} {v : Vl} {δ : PEnv} {ρ : MP.Env} {S : Sto} {b : Nat} {Q : PEnv → Prop}, wpG wc t d δ Q → EnvI C S ρ δ → Is C S d v → PuOk C b S → b + cG kf t ≤ BIG → Ok C b (cG kf t) S (asn cl t v ρ S) (fun S' δ' ρ' => EnvI C S' ρ' δ') Q
  | .name i, d, v, δ, ρ, S, b, Q, h, en, r, p, hb => Ok.ret p (en.set r i) h
  | .tup ts, d, v, δ, ρ, S, b, Q, ⟨xs, e, hl, q⟩, en, r, p, hb => by
    obtain ⟨vs, h1, h2⟩ := r.seq e
    show Ok C b (cGs kf ts) S (match seqOf S v with | some vs => if Nat.beq vs.length ts.len then asns cl ts vs ρ S else .bad | none => .bad) _ Q
    rw [h1]
    dsimp only
    rw [if_pos (by rw [IsL.len h2, hl]; simp)]
    exact sGs ts q en h2 p hb
  | .sub _ _, d, v, δ, ρ, S, b, Q, h, en, r, p, hb => False.elim h
termination_by structural x => x
theorem sGs : ∀ (t : Tgs) {ds : List D} {vs : List Vl} {δ : PEnv} {ρ : MP.Env} {S : Sto} {b : Nat} {Q : PEnv → Prop}, wpGs wc t ds δ Q → EnvI C S ρ δ → IsL C S ds vs → PuOk C b S → b + cGs kf t ≤ BIG → Ok C b (cGs kf t) S (asns cl t vs ρ S) (fun S' δ' ρ' => EnvI C S' ρ' δ') Q
  | .nil, [], vs, δ, ρ, S, b, Q, h, en, r, p, hb => by
    cases (show vs = [] from r)
    exact Ok.ret p en h
  | .nil, _ :: _, vs, δ, ρ, S, b, Q, h, en, r, p, hb => False.elim h
  | .cons t ts, [], vs, δ, ρ, S, b, Q, h, en, r, p, hb => False.elim h
  | .cons t ts, d :: ds, vs, δ, ρ, S, b, Q, h, en, ⟨v, r, e, h1, h2⟩, p, hb => by
    subst e
    have hb : b + (cG kf t + cGs kf ts) ≤ BIG := hb
    exact Ok.bind (sG t h en h1 p (by omega)) fun ρ1 S1 δ1 k1 p1 e1 q1 => sGs ts q1 e1 (IsL.kp k1 _ h2) p1 (by omega)
termination_by structural x => x
theorem sI : ∀ (t : MP.It) {δ : PEnv} {ρ : MP.Env} {S : Sto} {b : Nat} {Q : List D → Prop}, wpI wc t δ Q → EnvI C S ρ δ → PuOk C b S → b + cI kf t ≤ BIG → Ok C b (cI kf t) S (itr cl t ρ S) (fun S' xs J => ItI C S' xs J) Q
  | .seq e, δ, ρ, S, b, Q, h, en, p, hb => by
    have hb : b + cE kf e ≤ BIG := hb
    refine Ok.bind (k2 := 0) (sE e h en p hb) fun u S1 x k1 p1 i1 ⟨xs, e, q⟩ => ?_
    obtain ⟨J, h1, h2⟩ := it_seqI i1 e
    simp only [h1]
    exact Ok.ret p1 h2 q
  | .rng es, δ, ρ, S, b, Q, h, en, p, hb => by
    have hb : b + cA kf es ≤ BIG := hb
    refine Ok.bind (k2 := 0) (sA es h en p hb) fun u S1 x k1 p1 i1 q1 => ?_
    obtain ⟨lo, n, h1, h2⟩ := wRng_ok q1 i1
    simp only [h1]
    exact Ok.ret p1 (it_rngI lo n) h2
  | .enum e, δ, ρ, S, b, Q, h, en, p, hb => by
    have hb : b + cE kf e ≤ BIG := hb
    refine Ok.bind (k2 := 0) (sE e h en p hb) fun u S1 x k1 p1 i1 ⟨xs, e, q⟩ => ?_
    obtain ⟨n, h1, h2⟩ := it_enumI i1 e
    simp only [h1]
    exact Ok.ret p1 h2 q
  | .zip a c, δ, ρ, S, b, Q, h, en, p, hb => by
    have hb : b + (cE kf a + cE kf c) ≤ BIG := hb
    refine Ok.bind (sE a h en p (by omega)) fun u S1 x k1 p1 i1 q1 => Ok.bind (k2 := 0) (sE c q1 (en.kp k1) p1 (by omega)) fun v S2 y k2 p2 i2 q2 => ?_
    have i1' := Is.kp k2 _ i1
    match x, y, q2, i1', i2 with
    | .lst t xs, .lst t' ys, q2, i1', i2 =>
      obtain ⟨n, m, h1, h2, h3⟩ := it_zipI i1' i2 rfl rfl
      simp only [h1, h2]
      exact Ok.ret p2 h3 q2
    | .tup xs, .tup ys, q2, i1', i2 =>
      obtain ⟨n, m, h0, h1, h2, h3⟩ := it_zipTI i1' i2
      simp only [h0, h1, h2]
      exact Ok.ret p2 h3 q2
termination_by structural x => x
end
end
end MP
namespace MP
open PySem
structure PEnds where
  nx : PEnv → Prop
  rt : D → Prop
  bk : PEnv → Prop := fun _ => False
  ct : PEnv → Prop := fun _ => False
def wFor (as : D → PEnv → (PEnv → Prop) → Prop) (bd : PEnv → PEnds → Prop) : List D → PEnv → PEnds → Prop
  | [], δ, E => E.nx δ
  | x :: xs, δ, E => as x δ fun δ1 => bd δ1 { nx := fun δ2 => wFor as bd xs δ2 E, ct := fun δ2 => wFor as bd xs δ2 E, bk := E.nx, rt := E.rt }
def wWhl (tt : PEnv → (Bool → Prop) → Prop) (bd : PEnv → PEnds → Prop) : Nat → PEnv → PEnds → Prop
  | 0, _, _ => False
  | f + 1, δ, E => tt δ fun t => match t with
    | true => bd δ { nx := fun δ2 => wWhl tt bd f δ2 E, ct := fun δ2 => wWhl tt bd f δ2 E, bk := E.nx, rt := E.rt }
    | false => E.nx δ
section
variable (wc : WCl)
mutual
def wpS : Sm → PEnv → PEnds → Prop
  | .bad, _, _ => False
  | .pass, δ, E => E.nx δ
  | .expr e, δ, E => wpE wc e δ fun _ => E.nx δ
  | .asg t e, δ, E => wpE wc e δ fun d => wpG wc t d δ E.nx
  | .par i j a b, δ, E => wpE wc a δ fun x => wpE wc b δ fun y => E.nx ((δ.set i (some x)).set j (some y))
  | .ret e, δ, E => wpE wc e δ E.rt
  | .retN, _, E => E.rt .non
  | .ite c a b, δ, E => wpT wc c δ fun t => match t with
    | true => wpSs a δ E
    | false => wpSs b δ E
  | .forr t it b, δ, E => wpI wc it δ fun xs => xs.length < LF ∧ wFor (fun x δ' K => wpG wc t x δ' K) (fun δ' E' => wpSs b δ' E') xs δ E
  | .whl c b, δ, E => ∃ f, f ≤ LF ∧ wWhl (fun δ' K => wpT wc c δ' K) (fun δ' E' => wpSs b δ' E') f δ E
  | .brk, δ, E => E.bk δ
  | .cnt, δ, E => E.ct δ
termination_by structural x => x
def wpSs : Ss → PEnv → PEnds → Prop
  | .nil, δ, E => E.nx δ
  | .cons s r, δ, E => wpS s δ { E with nx := fun δ1 => wpSs r δ1 E }
termination_by structural x => x
end
end
section
variable (kf : Nat → Nat)
mutual
def cS : Sm → Nat
  | .expr e => cE kf e
  | .asg t e => cE kf e + cG kf t
  | .par _ _ a b => cE kf a + cE kf b
  | .ret e => cE kf e
  | .ite c a b => cT kf c + (cSs a + cSs b)
  | .forr t it b => cI kf it + LF * (cG kf t + cSs b)
  | .whl c b => LF * (cT kf c + cSs b)
  | _ => 0
termination_by structural x => x
def cSs : Ss → Nat
  | .nil => 0
  | .cons s r => cS s + cSs r
termination_by structural x => x
end
end
def OkS (C : Wc) (b k : Nat) (S : Sto) (r : XS) (E : PEnds) : Prop := match r with
  | .fl (.nx ρ) S' => Kp C S S' ∧ PuOk C (b + k) S' ∧ ∃ δ, EnvI C S' ρ δ ∧ E.nx δ
  | .fl (.bk ρ) S' => Kp C S S' ∧ PuOk C (b + k) S' ∧ ∃ δ, EnvI C S' ρ δ ∧ E.bk δ
  | .fl (.ct ρ) S' => Kp C S S' ∧ PuOk C (b + k) S' ∧ ∃ δ, EnvI C S' ρ δ ∧ E.ct δ
  | .fl (.rt v) S' => Kp C S S' ∧ PuOk C (b + k) S' ∧ ∃ d, Is C S' d v ∧ E.rt d
  | _ => False
theorem OkS.mono {C : Wc} {b k k' : Nat} {S : Sto} {r : XS} {E : PEnds} (h : OkS C b k S r E) (l : k ≤ k') : OkS C b k' S r E := by
  cases r with
  | fl f S' => cases f with
    | nx ρ => exact ⟨h.1, h.2.1.mono (by omega), h.2.2⟩
    | bk ρ => exact ⟨h.1, h.2.1.mono (by omega), h.2.2⟩
    | ct ρ => exact ⟨h.1, h.2.1.mono (by omega), h.2.2⟩
    | rt v => exact ⟨h.1, h.2.1.mono (by omega), h.2.2⟩
  | _ => exact h
theorem OkS.after {C : Wc} {b b' k k' : Nat} {S S1 : Sto} {r : XS} {E : PEnds} (h : OkS C b' k' S1 r E) (kp : Kp C S S1) (l : b' + k' ≤ b + k) : OkS C b k S r E := by
  cases r with
  | fl f S' => cases f with
    | nx ρ => exact ⟨kp.trans h.1, h.2.1.mono l, h.2.2⟩
    | bk ρ => exact ⟨kp.trans h.1, h.2.1.mono l, h.2.2⟩
    | ct ρ => exact ⟨kp.trans h.1, h.2.1.mono l, h.2.2⟩
    | rt v => exact ⟨kp.trans h.1, h.2.1.mono l, h.2.2⟩
  | _ => exact h
theorem for_ok {C : Wc} {as : D → PEnv → (PEnv → Prop) → Prop} {bd : PEnv → PEnds → Prop} {as' : Vl → MP.Env → Sto → R MP.Env} {bd' : MP.Env → Sto → XS} {S0 : Sto} {J : Itr} {all : List D} {ka kb : Nat} {E : PEnds}
    (hJ : ItI C S0 all J)
    (ha : ∀ {x : D} {v : Vl} {δ : PEnv} {ρ : MP.Env} {S : Sto} {b : Nat} {K : PEnv → Prop}, as x δ K → EnvI C S ρ δ → Is C S x v → PuOk C b S → b + ka ≤ BIG → Ok C b ka S (as' v ρ S) (fun S' δ ρ => EnvI C S' ρ δ) K)
    (hb : ∀ {δ : PEnv} {ρ : MP.Env} {S : Sto} {b : Nat} {E : PEnds}, bd δ E → EnvI C S ρ δ → PuOk C b S → b + kb ≤ BIG → OkS C b kb S (bd' ρ S) E) :
    ∀ (m i : Nat) (xs : List D) (δ : PEnv) (ρ : MP.Env) (S : Sto) (b : Nat), xs.length < m → (∀ j, all[i + j]? = xs[j]?) → wFor as bd xs δ E → EnvI C S ρ δ → Kp C S0 S → PuOk C b S → b + m * (ka + kb) ≤ BIG → OkS C b (m * (ka + kb)) S (forLoop as' bd' J m i ρ S) E
  | 0, i, xs, δ, ρ, S, b, hm, hx, w, en, kp, p, hl => absurd hm (Nat.not_lt_zero _)
  | m + 1, i, [], δ, ρ, S, b, hm, hx, w, en, kp, p, hl => by
    rw [for_eq, (hJ C S b i (.of kp) p).1 (by have := hx 0; simpa using this)]
    exact ⟨Kp.refl, p.mono (Nat.le_add_right _ _), δ, en, w⟩
  | m + 1, i, x :: xs, δ, ρ, S, b, hm, hx, w, en, kp, p, hl => by
    obtain ⟨v, S1, h1, k1, p1, i1⟩ := (hJ C S b i (.of kp) p).2 x (by have := hx 0; simpa using this)
    rw [Nat.succ_mul] at hl
    have hw : as x δ fun δ1 => bd δ1 { nx := fun δ2 => wFor as bd xs δ2 E, ct := fun δ2 => wFor as bd xs δ2 E, bk := E.nx, rt := E.rt } := w
    obtain ⟨ρ2, S2, δ2, e2, k2, p2, en2, q2⟩ := ha hw (en.kp k1) i1 p1 (by omega)
    have ob := hb q2 en2 p2 (by omega)
    have nx : ∀ j, all[i + 1 + j]? = xs[j]? := fun j => by
      have := hx (j + 1)
      rw [List.getElem?_cons_succ] at this
      rw [← this]
      congr 1
      omega
    have hm' : xs.length < m := by rw [List.length_cons] at hm; omega
    rw [for_eq, h1]
    dsimp only
    rw [e2]
    dsimp only
    cases q : bd' ρ2 S2 with
    | bad => rw [q] at ob; exact False.elim ob
    | exc k v ρ3 S3 => rw [q] at ob; exact False.elim ob
    | fl f S3 =>
      rw [q] at ob
      cases f with
      | nx ρ3 =>
        obtain ⟨k3, p3, δ3, en3, q3⟩ := ob
        exact (for_ok hJ ha hb m (i + 1) xs δ3 ρ3 S3 (b + ka + kb) hm' nx q3 en3 (((kp.trans k1).trans k2).trans k3) p3 (by omega)).after ((k1.trans k2).trans k3) (by rw [Nat.succ_mul]; omega)
      | ct ρ3 =>
        obtain ⟨k3, p3, δ3, en3, q3⟩ := ob
        exact (for_ok hJ ha hb m (i + 1) xs δ3 ρ3 S3 (b + ka + kb) hm' nx q3 en3 (((kp.trans k1).trans k2).trans k3) p3 (by omega)).after ((k1.trans k2).trans k3) (by rw [Nat.succ_mul]; omega)
      | bk ρ3 =>
        obtain ⟨k3, p3, δ3, en3, q3⟩ := ob
        exact ⟨(k1.trans k2).trans k3, p3.mono (by rw [Nat.succ_mul]; omega), δ3, en3, q3⟩
      | rt v3 =>
        obtain ⟨k3, p3, d3, en3, q3⟩ := ob
        exact ⟨(k1.trans k2).trans k3, p3.mono (by rw [Nat.succ_mul]; omega), d3, en3, q3⟩
theorem whl_ok {C : Wc} {tt : PEnv → (Bool → Prop) → Prop} {bd : PEnv → PEnds → Prop} {tt' : MP.Env → Sto → R Bool} {bd' : MP.Env → Sto → XS} {ka kb : Nat} {E : PEnds}
    (ha : ∀ {δ : PEnv} {ρ : MP.Env} {S : Sto} {b : Nat} {K : Bool → Prop}, tt δ K → EnvI C S ρ δ → PuOk C b S → b + ka ≤ BIG → Ok C b ka S (tt' ρ S) (fun _ d v => d = v) K)
    (hb : ∀ {δ : PEnv} {ρ : MP.Env} {S : Sto} {b : Nat} {E : PEnds}, bd δ E → EnvI C S ρ δ → PuOk C b S → b + kb ≤ BIG → OkS C b kb S (bd' ρ S) E) :
    ∀ (f m : Nat) (δ : PEnv) (ρ : MP.Env) (S : Sto) (b : Nat), f ≤ m → wWhl tt bd f δ E → EnvI C S ρ δ → PuOk C b S → b + m * (ka + kb) ≤ BIG → OkS C b (m * (ka + kb)) S (whlLoop tt' bd' m ρ S) E
  | 0, m, δ, ρ, S, b, hm, w, en, p, hl => False.elim w
  | f + 1, 0, δ, ρ, S, b, hm, w, en, p, hl => absurd hm (Nat.not_succ_le_zero _)
  | f + 1, m + 1, δ, ρ, S, b, hm, w, en, p, hl => by
    rw [Nat.succ_mul] at hl
    have hw : tt δ fun t => match t with
      | true => bd δ { nx := fun δ2 => wWhl tt bd f δ2 E, ct := fun δ2 => wWhl tt bd f δ2 E, bk := E.nx, rt := E.rt }
      | false => E.nx δ := w
    obtain ⟨t, S1, t', e1, k1, p1, rt, q1⟩ := ha hw en p (by omega)
    subst rt
    rw [whl_eq, e1]
    cases t' with
    | false => exact ⟨k1, p1.mono (by rw [Nat.succ_mul]; omega), δ, en.kp k1, q1⟩
    | true =>
      dsimp only
      have ob := hb q1 (en.kp k1) p1 (by omega)
      have hm' : f ≤ m := by omega
      cases q : bd' ρ S1 with
      | bad => rw [q] at ob; exact False.elim ob
      | exc k v ρ3 S3 => rw [q] at ob; exact False.elim ob
      | fl fl S3 =>
        rw [q] at ob
        cases fl with
        | nx ρ3 =>
          obtain ⟨k3, p3, δ3, en3, q3⟩ := ob
          exact (whl_ok ha hb f m δ3 ρ3 S3 (b + ka + kb) hm' q3 en3 p3 (by omega)).after (k1.trans k3) (by rw [Nat.succ_mul]; omega)
        | ct ρ3 =>
          obtain ⟨k3, p3, δ3, en3, q3⟩ := ob
          exact (whl_ok ha hb f m δ3 ρ3 S3 (b + ka + kb) hm' q3 en3 p3 (by omega)).after (k1.trans k3) (by rw [Nat.succ_mul]; omega)
        | bk ρ3 =>
          obtain ⟨k3, p3, δ3, en3, q3⟩ := ob
          exact ⟨k1.trans k3, p3.mono (by rw [Nat.succ_mul]; omega), δ3, en3, q3⟩
        | rt v3 =>
          obtain ⟨k3, p3, d3, en3, q3⟩ := ob
          exact ⟨k1.trans k3, p3.mono (by rw [Nat.succ_mul]; omega), d3, en3, q3⟩
section
variable {C : Wc} {wc : WCl} {kf : Nat → Nat} {cl : Nat → List Vl → Sto → R Vl} (hc : Snd C wc kf cl)
include hc
mutual
theorem sS : ∀ (s : Sm) {δ : PEnv} {ρ : MP.Env} {S : Sto} {b : Nat} {E : PEnds}, wpS wc s δ E → EnvI C S ρ δ → PuOk C b S → b + cS kf s ≤ BIG → OkS C b (cS kf s) S (ex cl s ρ S) E
  | .bad, δ, ρ, S, b, E, h, en, p, hb => False.elim h
  | .pass, δ, ρ, S, b, E, h, en, p, hb => ⟨Kp.refl, p, δ, en, h⟩
  | .brk, δ, ρ, S, b, E, h, en, p, hb => ⟨Kp.refl, p, δ, en, h⟩
  | .cnt, δ, ρ, S, b, E, h, en, p, hb => ⟨Kp.refl, p, δ, en, h⟩
  | .retN, δ, ρ, S, b, E, h, en, p, hb => ⟨Kp.refl, p, .non, rfl, h⟩
  | .expr e, δ, ρ, S, b, E, h, en, p, hb => by
    obtain ⟨v, S1, d, e1, k1, p1, i1, q1⟩ := sE hc e h en p hb
    show OkS C b (cE kf e) S ((ev cl e ρ S).xs ρ fun _ S1 => .fl (.nx ρ) S1) E
    rw [e1]
    exact ⟨k1, p1, δ, en.kp k1, q1⟩
  | .asg t e, δ, ρ, S, b, E, h, en, p, hb => by
    have hb : b + (cE kf e + cG kf t) ≤ BIG := hb
    obtain ⟨v, S1, d, e1, k1, p1, i1, q1⟩ := sE hc e h en p (by omega)
    obtain ⟨ρ2, S2, δ2, e2, k2, p2, en2, q2⟩ := sG hc t q1 (en.kp k1) i1 p1 (by omega)
    show OkS C b (cE kf e + cG kf t) S ((ev cl e ρ S).xs ρ fun v S1 => match asn cl t v ρ S1 with | .ok ρ1 S2 => .fl (.nx ρ1) S2 | _ => .bad) E
    rw [e1]
    show OkS C b (cE kf e + cG kf t) S (match asn cl t v ρ S1 with | .ok ρ1 S2 => .fl (.nx ρ1) S2 | _ => .bad) E
    rw [e2]
    exact ⟨k1.trans k2, by rw [← Nat.add_assoc]; exact p2, δ2, en2, q2⟩
  | .par i j a c, δ, ρ, S, b, E, h, en, p, hb => by
    have hb : b + (cE kf a + cE kf c) ≤ BIG := hb
    obtain ⟨v, S1, d, e1, k1, p1, i1, q1⟩ := sE hc a h en p (by omega)
    obtain ⟨w, S2, d2, e2, k2, p2, i2, q2⟩ := sE hc c q1 (en.kp k1) p1 (by omega)
    show OkS C b (cE kf a + cE kf c) S ((ev cl a ρ S).xs ρ fun v S1 => (ev cl c ρ S1).xs ρ fun w S2 => .fl (.nx ((ρ.set i (some v)).set j (some w))) S2) E
    rw [e1]
    show OkS C b (cE kf a + cE kf c) S ((ev cl c ρ S1).xs ρ fun w S2 => .fl (.nx ((ρ.set i (some v)).set j (some w))) S2) E
    rw [e2]
    exact ⟨k1.trans k2, by rw [← Nat.add_assoc]; exact p2, _, ((en.kp (k1.trans k2)).set (Is.kp k2 _ i1) i).set i2 j, q2⟩
  | .ret e, δ, ρ, S, b, E, h, en, p, hb => by
    obtain ⟨v, S1, d, e1, k1, p1, i1, q1⟩ := sE hc e h en p hb
    show OkS C b (cE kf e) S ((ev cl e ρ S).xs ρ fun v S1 => .fl (.rt v) S1) E
    rw [e1]
    exact ⟨k1, p1, d, i1, q1⟩
  | .ite c a d, δ, ρ, S, b, E, h, en, p, hb => by
    have hb : b + (cT kf c + (cSs kf a + cSs kf d)) ≤ BIG := hb
    obtain ⟨t, S1, t', e1, k1, p1, i1, q1⟩ := sT hc c h en p (by omega)
    subst i1
    show OkS C b (cT kf c + (cSs kf a + cSs kf d)) S (match tst cl c ρ S with
      | .ok true S1 => exs cl a ρ S1
      | .ok false S1 => exs cl d ρ S1
      | .exc k v S => .exc k v ρ S
      | .bad => .bad) E
    rw [e1]
    cases t' with
    | true => exact (sSs a q1 (en.kp k1) p1 (by omega)).after k1 (by omega)
    | false => exact (sSs d q1 (en.kp k1) p1 (by omega)).after k1 (by omega)
  | .forr t it c, δ, ρ, S, b, E, h, en, p, hb => by
    have hb : b + (cI kf it + LF * (cG kf t + cSs kf c)) ≤ BIG := hb
    obtain ⟨J, S1, xs, e1, k1, p1, i1, hl, q1⟩ := sI hc it h en p (by omega)
    show OkS C b (cI kf it + LF * (cG kf t + cSs kf c)) S (match itr cl it ρ S with
      | .ok J S1 => forLoop (fun v ρ' S' => asn cl t v ρ' S') (fun ρ' S' => exs cl c ρ' S') J LF 0 ρ S1
      | .exc k v S => .exc k v ρ S
      | .bad => .bad) E
    rw [e1]
    exact (for_ok i1 (fun {x v δ ρ S b K} w e i pp bb => sG hc t w e i pp bb) (fun {δ ρ S b E} w e pp bb => sSs c w e pp bb) LF 0 xs δ ρ S1 _ hl (fun j => by rw [Nat.zero_add]) q1 (en.kp k1) Kp.refl p1 (by omega)).after k1 (by omega)
  | .whl c d, δ, ρ, S, b, E, ⟨f, hf, h⟩, en, p, hb => by
    have hb : b + LF * (cT kf c + cSs kf d) ≤ BIG := hb
    exact whl_ok (fun {δ ρ S b K} w e pp bb => sT hc c w e pp bb) (fun {δ ρ S b E} w e pp bb => sSs d w e pp bb) f LF δ ρ S b hf h en p hb
termination_by structural x => x
theorem sSs : ∀ (s : Ss) {δ : PEnv} {ρ : MP.Env} {S : Sto} {b : Nat} {E : PEnds}, wpSs wc s δ E → EnvI C S ρ δ → PuOk C b S → b + cSs kf s ≤ BIG → OkS C b (cSs kf s) S (exs cl s ρ S) E
  | .nil, δ, ρ, S, b, E, h, en, p, hb => ⟨Kp.refl, p, δ, en, h⟩
  | .cons s r, δ, ρ, S, b, E, h, en, p, hb => by
    have hb : b + (cS kf s + cSs kf r) ≤ BIG := hb
    have o1 := sS s h en p (by omega)
    show OkS C b (cS kf s + cSs kf r) S (match ex cl s ρ S with
      | .fl (.nx ρ1) S1 => exs cl r ρ1 S1
      | x => x) E
    cases q : ex cl s ρ S with
    | bad => rw [q] at o1; exact False.elim o1
    | exc k v ρ3 S3 => rw [q] at o1; exact False.elim o1
    | fl f S1 =>
      rw [q] at o1
      cases f with
      | nx ρ1 =>
        obtain ⟨k1, p1, δ1, en1, q1⟩ := o1
        exact (sSs r q1 en1 p1 (by omega)).after k1 (by omega)
      | bk ρ1 =>
        obtain ⟨k1, p1, δ1, en1, q1⟩ := o1
        exact ⟨k1, p1.mono (by omega), δ1, en1, q1⟩
      | ct ρ1 =>
        obtain ⟨k1, p1, δ1, en1, q1⟩ := o1
        exact ⟨k1, p1.mono (by omega), δ1, en1, q1⟩
      | rt v =>
        obtain ⟨k1, p1, d1, en1, q1⟩ := o1
        exact ⟨k1, p1.mono (by omega), d1, en1, q1⟩
termination_by structural x => x
end
end
def startD (nn : Nat) (xs : List D) : PEnv := xs.map some ++ List.replicate (nn - xs.length) none
/-- words for some functions; the others by their bodies -/
abbrev Specs := Nat → Option (List D → (D → Prop) → Prop)
def wcl (T : List Fn) (sp : Specs) : Nat → WCl
  | 0, f, xs, Q => match sp f with
    | some w => w xs Q
    | none => False
  | d + 1, f, xs, Q => match sp f with
    | some w => w xs Q
    | none => match T[f]? with
      | none => False
      | some F => xs.length = F.np ∧ wpSs (wcl T sp d) F.body (startD F.nn xs) { nx := fun _ => Q .non, rt := Q }
def kcl (T : List Fn) (sp : Specs) (ks : Nat → Nat) : Nat → Nat → Nat
  | 0, f => ks f
  | d + 1, f => match sp f with
    | some _ => ks f
    | none => match T[f]? with
      | none => 0
      | some F => cSs (kcl T sp ks d) F.body
theorem envI_start {C : Wc} {S : Sto} {nn : Nat} {xs : List D} {vs : List Vl} (h : IsL C S xs vs) : EnvI C S (MP.start nn vs) (startD nn xs) := by
  have hl := IsL.len h
  unfold MP.start startD
  rw [hl]
  refine ⟨by simp [hl], fun i d q => ?_⟩
  by_cases c : i < xs.length
  · rw [List.getElem?_append_left (by simpa using c), List.getElem?_map] at q
    rw [List.getElem?_append_left (by simpa [hl] using c), List.getElem?_map]
    cases e : xs[i]? with
    | none => rw [e] at q; cases q
    | some w =>
      rw [e] at q
      cases q
      obtain ⟨v, h1, h2⟩ := h.at1 e
      exact ⟨v, by rw [h1]; rfl, h2⟩
  · rw [List.getElem?_append_right (by simpa using c), List.getElem?_replicate] at q
    split at q <;> cases q
/-- the words given are kept at depth m0 and beyond -/
def SpOk (C : Wc) (T : List Fn) (sp : Specs) (ks : Nat → Nat) (m0 : Nat) : Prop := ∀ (f : Nat) (w : List D → (D → Prop) → Prop), sp f = some w → ∀ (d : Nat) (xs : List D) (Q : D → Prop) (vs : List Vl) (S : Sto) (b : Nat), w xs Q → IsL C S xs vs → PuOk C b S → b + ks f ≤ BIG →
  Ok C b (ks f) S (calls T (d + m0) f vs S) (Is C) Q
theorem wcl_snd {C : Wc} {T : List Fn} {sp : Specs} {ks : Nat → Nat} {m0 : Nat} (h : SpOk C T sp ks m0) : ∀ d : Nat, Snd C (wcl T sp d) (kcl T sp ks d) (calls T (d + m0))
  | 0 => fun f xs Q vs S b w i p hb => by
    have w : match sp f with
      | some w => w xs Q
      | none => False := w
    cases e : sp f with
    | none => rw [e] at w; exact False.elim w
    | some w' => rw [e] at w; exact h f w' e 0 xs Q vs S b w i p hb
  | d + 1 => fun f xs Q vs S b w i p hb => by
    have w : match sp f with
      | some w => w xs Q
      | none => match T[f]? with
        | none => False
        | some F => xs.length = F.np ∧ wpSs (wcl T sp d) F.body (startD F.nn xs) { nx := fun _ => Q .non, rt := Q } := w
    have hb' : b + (match sp f with
      | some _ => ks f
      | none => match T[f]? with
        | none => 0
        | some F => cSs (kcl T sp ks d) F.body) ≤ BIG := hb
    show Ok C b (match sp f with
      | some _ => ks f
      | none => match T[f]? with
        | none => 0
        | some F => cSs (kcl T sp ks d) F.body) S (calls T (d + 1 + m0) f vs S) (Is C) Q
    cases e : sp f with
    | some w' =>
      rw [e] at w hb'
      exact h f w' e (d + 1) xs Q vs S b w i p hb'
    | none =>
      rw [e] at w hb'
      cases eT : T[f]? with
      | none => rw [eT] at w; exact False.elim w
      | some F =>
        rw [eT] at w hb'
        obtain ⟨hl, w⟩ := w
        have o := sSs (wcl_snd h d) F.body w (envI_start i) p hb'
        have ed : d + 1 + m0 = (d + m0) + 1 := by omega
        rw [ed]
        show Ok C b (cSs (kcl T sp ks d) F.body) S (match T[f]? with
          | none => .bad
          | some F => if vs.length == F.np then (match exs (calls T (d + m0)) F.body (MP.start F.nn vs) S with
            | .fl (.nx _) S1 => .ok .non S1
            | .fl (.rt v) S1 => .ok v S1
            | .exc k v _ S1 => .exc k v S1
            | _ => .bad) else .bad) (Is C) Q
        rw [eT]
        dsimp only
        rw [if_pos (by rw [IsL.len i, hl]; simp)]
        cases q : exs (calls T (d + m0)) F.body (MP.start F.nn vs) S with
        | bad => rw [q] at o; exact False.elim o
        | exc k v ρ3 S3 => rw [q] at o; exact False.elim o
        | fl fl S1 =>
          rw [q] at o
          cases fl with
          | nx ρ1 =>
            obtain ⟨k1, p1, δ1, en1, q1⟩ := o
            exact ⟨.non, S1, .non, rfl, k1, p1, rfl, q1⟩
          | bk ρ1 => obtain ⟨_, _, _, _, z⟩ := o; exact False.elim z
          | ct ρ1 => obtain ⟨_, _, _, _, z⟩ := o; exact False.elim z
          | rt v =>
            obtain ⟨k1, p1, d1, en1, q1⟩ := o
            exact ⟨v, S1, d1, rfl, k1, p1, en1, q1⟩
/-- a call, by its body -/
theorem wcl_body {T : List Fn} {sp : Specs} {d f : Nat} {xs : List D} {Q : D → Prop} {F : Fn} (hT : T[f]? = some F) (hs : sp f = none) (hl : xs.length = F.np) (h : wpSs (wcl T sp d) F.body (startD F.nn xs) { nx := fun _ => Q .non, rt := Q }) : wcl T sp (d + 1) f xs Q := by
  show match sp f with
    | some w => w xs Q
    | none => match T[f]? with
      | none => False
      | some F => xs.length = F.np ∧ wpSs (wcl T sp d) F.body (startD F.nn xs) { nx := fun _ => Q .non, rt := Q }
  rw [hs]
  dsimp only
  rw [hT]
  exact ⟨hl, h⟩
theorem wcl_spec {T : List Fn} {sp : Specs} {f : Nat} {xs : List D} {Q : D → Prop} {w : List D → (D → Prop) → Prop} (hs : sp f = some w) (h : w xs Q) : ∀ d : Nat, wcl T sp d f xs Q
  | 0 => by
    show match sp f with
      | some w => w xs Q
      | none => False
    rw [hs]
    exact h
  | d + 1 => by
    show match sp f with
      | some w => w xs Q
      | none => match T[f]? with
        | none => False
        | some F => xs.length = F.np ∧ wpSs (wcl T sp d) F.body (startD F.nn xs) { nx := fun _ => Q .non, rt := Q }
    rw [hs]
    exact h
end MP
namespace MP
open PySem
def mixedB : Ss := (.cons (.asg (.name 3) (.bin .add (.bin .mul (.var 0) (.int 69069)) (.bin .mul (.bin .mul (.int 104729) (.var 1)) (.var 1)))) (.cons (.asg (.name 3) (.bin .mod (.bi .int1 (.cons (.bin .add (.bin .add (.var 3) (.bin .mul (.int 7919) (.var 2))) (.var 1)) .nil)) (.int 2147483647))) (.cons (.asg (.name 3) (.bin .mod (.bi .int1 (.cons (.bin .add (.bin .mul (.var 3) (.var 3)) (.int 40503)) .nil)) (.int 2147483629))) (.cons (.ret (.bin .mod (.bi .int1 (.cons (.bin .mul (.var 3) (.int 48271)) .nil)) (.int 2147483587))) .nil))))
def drawB (g : Nat) : Ss := (.cons (.ite (.cmp .gt (.sub (.var 0) (.int 0)) (.int 0)) (.cons (.asg (.name 2) (.bin .mod (.bi .int1 (.cons (.sub (.var 0) (.int 0)) .nil)) (.var 1))) (.cons (.asg (.sub (.var 0) (.int 0)) (.bin .fdiv (.sub (.var 0) (.int 0)) (.var 1))) (.cons (.ret (.var 2)) .nil))) .nil) (.cons (.asg (.name 3) (.int 0)) (.cons (.forr (.name 4) (.rng (.cons (.bin .add (.int 1) (.bin .fdiv (.mt .bitLength (.var 1) .nil) (.int 28))) .nil)) (.cons (.asg (.sub (.var 0) (.int 2)) (.bin .add (.sub (.var 0) (.int 2)) (.int 1))) (.cons (.asg (.name 3) (.bin .add (.bin .mul (.var 3) (.int 2147483587)) (.call g (.cons (.sub (.var 0) (.int 1)) (.cons (.sub (.var 0) (.int 2)) (.cons (.sub (.var 0) (.int 3)) .nil))) []))) .nil))) (.cons (.ret (.bin .mod (.bi .int1 (.cons (.var 3) .nil)) (.var 1))) .nil))))
/-- a bound that is never met -/
@[irreducible] def HUGE : Nat := 2 ^ 200000
theorem bits_lt {i : Int} {n : Nat} (h : i.natAbs < 2 ^ n) : Builtin.Int.intBits i ≤ n := PyProof.Rows.intBits_le h
theorem mul_small {i j : Int} (h1 : i.natAbs < 2 ^ 60000000) (h2 : j.natAbs < 2 ^ 60000000) : mulOk i j = true := by
  have b1 := bits_lt h1
  have b2 := bits_lt h2
  unfold mulOk
  exact Nat.ble_eq_true_of_le (by omega)
theorem pow_mono {a b : Nat} (h : a ≤ b) : (2 : Nat) ^ a ≤ 2 ^ b := Nat.pow_le_pow_right (by decide) h
theorem small_of {x : Nat} (k : Nat) (hk : k ≤ 60000000) (h : x < 2 ^ k) : x < 2 ^ 60000000 := Nat.lt_of_lt_of_le h (pow_mono hk)
/-- the mixing def's number -/
theorem mixed_ok {cl : Nat → List Vl → Sto → R Vl} {s c e : Int} {S : Sto} (hs : 0 ≤ s ∧ s < 2147483629) (hc0 : 0 ≤ c ∧ c.natAbs < HUGE) (he : 0 ≤ e ∧ e ≤ 63) :
    ∃ r, 0 ≤ r ∧ r < 2147483587 ∧ exs cl mixedB (MP.start 4 [.int s, .int c, .int e]) S = .fl (.rt (.int r)) S := by
  have hc : 0 ≤ c ∧ c.natAbs < 2 ^ 200000 := by
    have := hc0
    unfold HUGE at this
    exact this
  have c2 : (104729 * c).natAbs < 2 ^ 200017 := by
    rw [Int.natAbs_mul]
    have : (2 : Nat) ^ 200017 = 2 ^ 17 * 2 ^ 200000 := by rw [← Nat.pow_add]
    rw [this]
    have h1 : (104729 : Int).natAbs = 104729 := rfl
    rw [h1]
    have h2 : (104729 : Nat) < 2 ^ 17 := by decide
    exact Nat.mul_lt_mul'' h2 hc.2
  have m1 : mulOk s 69069 = true := mul_small (small_of 31 (by decide) (by omega)) (small_of 31 (by decide) (by decide))
  have m2 : mulOk 104729 c = true := mul_small (small_of 31 (by decide) (by decide)) (small_of 200000 (by decide) hc.2)
  have m3 : mulOk (104729 * c) c = true := mul_small (small_of 200017 (by decide) c2) (small_of 200000 (by decide) hc.2)
  have m4 : mulOk 7919 e = true := mul_small (small_of 31 (by decide) (by decide)) (small_of 31 (by decide) (by omega))
  have n1 := Int.emod_nonneg (s * 69069 + 104729 * c * c + 7919 * e + c) (show (2147483647 : Int) ≠ 0 by decide)
  have n2 := Int.emod_lt_of_pos (s * 69069 + 104729 * c * c + 7919 * e + c) (show (0 : Int) < 2147483647 by decide)
  have f1 : (s * 69069 + 104729 * c * c + 7919 * e + c).fmod 2147483647 = (s * 69069 + 104729 * c * c + 7919 * e + c) % 2147483647 := Int.fmod_eq_emod_of_nonneg _ (by decide)
  generalize hx : (s * 69069 + 104729 * c * c + 7919 * e + c) % 2147483647 = x at n1 n2 f1
  have m5 : mulOk x x = true := mul_small (small_of 31 (by decide) (by omega)) (small_of 31 (by decide) (by omega))
  have n3 := Int.emod_nonneg (x * x + 40503) (show (2147483629 : Int) ≠ 0 by decide)
  have n4 := Int.emod_lt_of_pos (x * x + 40503) (show (0 : Int) < 2147483629 by decide)
  have f2 : (x * x + 40503).fmod 2147483629 = (x * x + 40503) % 2147483629 := Int.fmod_eq_emod_of_nonneg _ (by decide)
  generalize hy : (x * x + 40503) % 2147483629 = y at n3 n4 f2
  have m6 : mulOk y 48271 = true := mul_small (small_of 31 (by decide) (by omega)) (small_of 31 (by decide) (by decide))
  have n5 := Int.emod_nonneg (y * 48271) (show (2147483587 : Int) ≠ 0 by decide)
  have n6 := Int.emod_lt_of_pos (y * 48271) (show (0 : Int) < 2147483587 by decide)
  have f3 : (y * 48271).fmod 2147483587 = (y * 48271) % 2147483587 := Int.fmod_eq_emod_of_nonneg _ (by decide)
  refine ⟨(y * 48271) % 2147483587, n5, n6, ?_⟩
  simp [mixedB, exs, ex, R.xs, ev, evs, R.bind, asn, MP.start, binS, biS, m1, m2, m3, m4, m5, m6, f1, f2, f3]
theorem set_get {S : Sto} {p : Nat} {o o' : Ob} (h : S.get p = some o) : (S.set p o').get p = some o' := by
  rw [Sto.get_set, if_pos ⟨rfl, Sto.get_lt h⟩]
theorem Sto.set_set (S : Sto) (p : Nat) (o o' : Ob) (j : Nat) : ((S.set p o).set p o').get j = (S.set p o').get j := by
  rw [Sto.get_set, Sto.get_set, Sto.get_set, Sto.n_set]
  by_cases c : p = j ∧ p < S.n
  · rw [if_pos c, if_pos c]
  · rw [if_neg c, if_neg c, if_neg c]
/-- the draw, of a purse that is rich -/
theorem draw_rich {cl : Nat → List Vl → Sto → R Vl} {g p : Nat} {a s c e m : Int} {S : Sto} (hp : S.get p = some (.lst [.int a, .int s, .int c, .int e])) (ha : 0 < a) (hm : 1 ≤ m ∧ m < 1073741824) :
    exs cl (drawB g) (MP.start 5 [.ref p, .int m]) S = .fl (.rt (.int (a.fmod m))) (S.set p (.lst [.int (a.fdiv m), .int s, .int c, .int e])) := by
  have m0 : m ≠ 0 := by omega
  have np : Builtin.divisionGoesByPylong a m = false := PyProof.noPylong_small (by omega)
  simp [drawB, exs, ex, R.xs, ev, evs, tst, R.bind, asn, MP.start, binS, biS, cmpS, blR, subS, hp, ixI, Nat.blt, Nat.ble, ha, m0, np, setS]
/-- the draw's pieces, of a poor one -/
theorem draw_loop {cl : Nat → List Vl → Sto → R Vl} {g p : Nat} {s e m : Int} (hg : ∀ (s c e : Int) (S : Sto), (0 ≤ s ∧ s < 2147483629) → (0 ≤ c ∧ c.natAbs < HUGE) → (0 ≤ e ∧ e ≤ 63) → ∃ r, 0 ≤ r ∧ r < 2147483587 ∧ cl g [.int s, .int c, .int e] S = .ok (.int r) S)
    (hs : 0 ≤ s ∧ s < 2147483629) (he : 0 ≤ e ∧ e ≤ 63) (bd : Ss)
    (hbd : bd = (.cons (.asg (.sub (.var 0) (.int 2)) (.bin .add (.sub (.var 0) (.int 2)) (.int 1))) (.cons (.asg (.name 3) (.bin .add (.bin .mul (.var 3) (.int 2147483587)) (.call g (.cons (.sub (.var 0) (.int 1)) (.cons (.sub (.var 0) (.int 2)) (.cons (.sub (.var 0) (.int 3)) .nil))) []))) .nil))) :
    ∀ (k f i n : Nat) (a c x : Int) (v2 v4 : Option Vl) (S : Sto), i + k = n → k < f → S.get p = some (.lst [.int a, .int s, .int c, .int e]) → (0 ≤ c ∧ c.natAbs + k < HUGE) → (0 ≤ x ∧ x.natAbs < 2 ^ (40 * (i + 1))) → n ≤ 1000 →
      ∃ y v4' S', forLoop (fun v ρ' S' => asn cl (.name 4) v ρ' S') (fun ρ' S' => exs cl bd ρ' S') (.rng 0 n) f i [some (.ref p), some (.int m), v2, some (.int x), v4] S = .fl (.nx [some (.ref p), some (.int m), v2, some (.int y), v4']) S' ∧
        0 ≤ y ∧ S'.n = S.n ∧ S'.get p = some (.lst [.int a, .int s, .int (c + k), .int e]) ∧ ∀ j, j ≠ p → S'.get j = S.get j
  | 0, f, i, n, a, c, x, v2, v4, S, hk, hf, hp, hc, hx, hn => by
    match f, hf with
    | f + 1, _ =>
      refine ⟨x, v4, S, ?_, hx.1, rfl, ?_, fun j _ => rfl⟩
      · rw [for_eq]
        simp only [MP.next]
        rw [if_neg (show ¬ Nat.blt i n = true from fun z => by have : i < n := Nat.le_of_ble_eq_true z; omega)]
      · rw [hp]; simp
  | k + 1, f, i, n, a, c, x, v2, v4, S, hk, hf, hp, hc, hx, hn => by
    match f, hf with
    | f + 1, hf =>
      have hp1 : (S.set p (.lst [.int a, .int s, .int (c + 1), .int e])).get p = some (.lst [.int a, .int s, .int (c + 1), .int e]) := set_get hp
      obtain ⟨r, r1, r2, hr⟩ := hg s (c + 1) e (S.set p (.lst [.int a, .int s, .int (c + 1), .int e])) hs ⟨by omega, by omega⟩ he
      have mx : mulOk x 2147483587 = true := mul_small (small_of (40 * (i + 1)) (by omega) hx.2) (small_of 31 (by decide) (by decide))
      have hx' : 0 ≤ x * 2147483587 + r ∧ (x * 2147483587 + r).natAbs < 2 ^ (40 * (i + 1 + 1)) := by
        have nn : 0 ≤ x * 2147483587 := Int.mul_nonneg hx.1 (by decide)
        refine ⟨by omega, ?_⟩
        have e1 : (x * 2147483587 + r).natAbs = x.natAbs * 2147483587 + r.natAbs := by
          have := hx.1
          omega
        rw [e1]
        have e2 : (2 : Nat) ^ (40 * (i + 1 + 1)) = 2 ^ (40 * (i + 1)) * 2 ^ 40 := by rw [← Nat.pow_add]; congr 1
        rw [e2]
        have q : (2 : Nat) ^ 40 = 1099511627776 := by decide
        have q1 : x.natAbs + 1 ≤ 2 ^ (40 * (i + 1)) := hx.2
        have q2 : (x.natAbs + 1) * 2 ^ 40 ≤ 2 ^ (40 * (i + 1)) * 2 ^ 40 := Nat.mul_le_mul_right _ q1
        rw [q] at q2 ⊢
        omega
      obtain ⟨y, v4', S', h1, h2, h3, h4, h5⟩ := draw_loop hg hs he bd hbd k f (i + 1) n a (c + 1) (x * 2147483587 + r) v2 (some (.int (0 + (i : Nat)))) (S.set p (.lst [.int a, .int s, .int (c + 1), .int e])) (by omega) (by omega) hp1 ⟨by omega, by omega⟩ hx' hn
      refine ⟨y, v4', S', ?_, h2, by rw [h3, Sto.n_set], by rw [h4, show c + 1 + (k : Int) = c + ((k + 1 : Nat) : Int) by omega], fun j hj => by rw [h5 j hj, Sto.get_set, if_neg fun z => hj z.1.symm]⟩
      rw [for_eq]
      simp only [MP.next]
      rw [if_pos (show Nat.blt i n = true from Nat.ble_eq_true_of_le (by omega))]
      rw [← h1]
      subst hbd
      simp [exs, ex, R.xs, ev, evs, R.bind, asn, binS, subS, hp, hp1, ixI, Nat.blt, Nat.ble, setS, mx, hr]
theorem calls_eq {T : List Fn} {f : Nat} {F : Fn} (hT : T[f]? = some F) (d : Nat) (vs : List Vl) (S : Sto) (hl : vs.length = F.np) : calls T (d + 1) f vs S = match exs (calls T d) F.body (MP.start F.nn vs) S with
    | .fl (.nx _) S1 => R.ok Vl.non S1
    | .fl (.rt v) S1 => .ok v S1
    | .exc k v _ S1 => .exc k v S1
    | _ => .bad := by
  show (match T[f]? with
    | none => R.bad
    | some F => if vs.length == F.np then (match exs (calls T d) F.body (MP.start F.nn vs) S with
        | .fl (.nx _) S1 => R.ok Vl.non S1
        | .fl (.rt v) S1 => .ok v S1
        | .exc k v _ S1 => .exc k v S1
        | _ => .bad) else .bad) = _
  rw [hT]
  dsimp only
  rw [if_pos (by rw [hl]; simp)]
theorem mixed_cl {T : List Fn} {g : Nat} (hg : T[g]? = some ⟨3, 4, mixedB⟩) (d : Nat) (s c e : Int) (S : Sto) (hs : 0 ≤ s ∧ s < 2147483629) (hc : 0 ≤ c ∧ c.natAbs < HUGE) (he : 0 ≤ e ∧ e ≤ 63) :
    ∃ r, 0 ≤ r ∧ r < 2147483587 ∧ calls T (d + 1) g [.int s, .int c, .int e] S = .ok (.int r) S := by
  obtain ⟨r, h1, h2, h3⟩ := mixed_ok (cl := calls T d) (S := S) hs hc he
  refine ⟨r, h1, h2, ?_⟩
  rw [calls_eq hg d _ _ rfl, h3]
theorem exs_nx {cl : Nat → List Vl → Sto → R Vl} {s : Sm} {r : Ss} {ρ ρ1 : MP.Env} {S S1 : Sto} (h : ex cl s ρ S = .fl (.nx ρ1) S1) : exs cl (.cons s r) ρ S = exs cl r ρ1 S1 := by
  show (match ex cl s ρ S with
    | .fl (.nx ρ1) S1 => exs cl r ρ1 S1
    | x => x) = _
  rw [h]
theorem for_run {cl : Nat → List Vl → Sto → R Vl} {t : Tg} {it : MP.It} {b : Ss} {ρ : MP.Env} {S S1 : Sto} {J : Itr} (h : itr cl it ρ S = .ok J S1) : ex cl (.forr t it b) ρ S = forLoop (fun v ρ' S' => asn cl t v ρ' S') (fun ρ' S' => exs cl b ρ' S') J LF 0 ρ S1 := by
  show (match itr cl it ρ S with
    | .ok J S1 => forLoop (fun v ρ' S' => asn cl t v ρ' S') (fun ρ' S' => exs cl b ρ' S') J LF 0 ρ S1
    | .exc k v S => .exc k v ρ S
    | .bad => .bad) = _
  rw [h]
theorem rngOf_one {j : Int} (h : bnd j = true) : rngOf [.int j] = some (0, j.toNat) := by
  simp only [rngOf]
  rw [if_pos h]
theorem itr_rng {cl : Nat → List Vl → Sto → R Vl} {es : Es} {ρ : MP.Env} {S S1 : Sto} {vs : List Vl} {lo : Int} {n : Nat} (h1 : evs cl es ρ S = .ok vs S1) (h2 : rngOf vs = some (lo, n)) : itr cl (.rng es) ρ S = .ok (.rng lo n) S1 := by
  show ((evs cl es ρ S).bind fun vs S1 => match rngOf vs with
    | some (lo, n) => R.ok (Itr.rng lo n) S1
    | none => .bad) = _
  rw [h1]
  show (match rngOf vs with
    | some (lo, n) => R.ok (Itr.rng lo n) S1
    | none => .bad) = _
  rw [h2]
theorem big_huge : BIG + 2 < HUGE := by
  have a4 : (2 : Nat) ^ 2 ≤ 2 ^ 100000 := pow_mono (by decide)
  have le : (2 : Nat) ^ (100000 + 1) ≤ 2 ^ 200000 := pow_mono (by decide)
  rw [Nat.pow_succ] at le
  unfold BIG HUGE
  generalize (2 : Nat) ^ 100000 = x at *
  generalize (2 : Nat) ^ 200000 = y at *
  omega
/-- the word of the draw -/
def wDraw : List D → (D → Prop) → Prop := fun xs Q => ∃ p m, xs = [.pur p, .int m] ∧ 1 ≤ m ∧ m < 1073741824 ∧ ∀ k : Int, 0 ≤ k → k < m → Q (.int k)
theorem put_kp {C : Wc} {b b' : Nat} {S S' : Sto} {p : Nat} {a s c e : Int} (hp : C.pu p = true) (hq : C.ce p = none) (p0 : PuOk C b S) (hn : S'.n = S.n) (g : S'.get p = some (.lst [.int a, .int s, .int c, .int e])) (k : ∀ j, j ≠ p → S'.get j = S.get j)
    (ha : 0 ≤ a ∧ a < 10 ^ 480) (hs : 0 ≤ s ∧ s < 2147483629) (hc : 0 ≤ c ∧ c ≤ b') (he : 0 ≤ e ∧ e ≤ 63) (l : b ≤ b') : Kp C S S' ∧ PuOk C b' S' := by
  refine ⟨⟨Nat.le_of_eq hn.symm, fun i o h hi => ?_⟩, fun q hq => ?_, by rw [hn]; exact p0.2⟩
  · have : i ≠ p := fun z => by rw [z, hp] at hi; cases hi
    rw [k i this]; exact h
  · by_cases z : q = p
    · rw [z]; exact PuAt.ofPur ‹_› ⟨a, s, c, e, g, ha, hs, hc, he⟩
    · exact (p0.1 q hq).same l fun vs h => by rw [k q z]; exact h
theorem draw_spec {C : Wc} {T : List Fn} {f g : Nat} (hT : T[f]? = some ⟨2, 5, drawB g⟩) (hg : T[g]? = some ⟨3, 4, mixedB⟩) (d : Nat) {xs : List D} {Q : D → Prop} {vs : List Vl} {S : Sto} {b : Nat} (w : wDraw xs Q) (i : IsL C S xs vs) (p0 : PuOk C b S) (hb : b + 2 ≤ BIG) :
    Ok C b 2 S (calls T (d + 2) f vs S) (Is C) Q := by
  obtain ⟨p, m, rfl, m1, m2, q⟩ := w
  obtain ⟨v1, v2, rfl, ⟨rfl, hp, hz⟩, h2⟩ := i.two
  cases h2
  obtain ⟨a, s, c, e, g0, ha, hs, hc, he⟩ := (p0.1 p hp).pur hz
  rw [calls_eq hT (d + 1) _ _ rfl]
  by_cases pos : 0 < a
  · rw [draw_rich g0 pos ⟨m1, m2⟩]
    have f1 : a.fmod m = a % m := Int.fmod_eq_emod_of_nonneg _ (by omega)
    have f2 : a.fdiv m = a / m := Int.fdiv_eq_ediv_of_nonneg _ (by omega)
    rw [f1, f2]
    have l1 : 0 ≤ a / m := Int.ediv_nonneg ha.1 (by omega)
    have l2 : a / m ≤ a := Int.ediv_le_self _ ha.1
    obtain ⟨k1, k2⟩ := put_kp (C := C) (b := b) (b' := b + 2) (S' := S.set p (.lst [.int (a / m), .int s, .int c, .int e])) hp hz p0 (Sto.n_set ..) (set_get g0) (fun j hj => by rw [Sto.get_set, if_neg fun z => hj z.1.symm]) ⟨l1, Int.lt_of_le_of_lt l2 ha.2⟩ hs ⟨hc.1, by omega⟩ he (by omega)
    exact ⟨_, _, .int (a % m), rfl, k1, k2, rfl, q _ (Int.emod_nonneg _ (by omega)) (Int.emod_lt_of_pos _ (by omega))⟩
  · have a0 : a = 0 := by omega
    subst a0
    have bm : Builtin.Int.intBits m ≤ 30 := bits_lt (by rw [show (2 : Nat) ^ 30 = 1073741824 by decide]; omega)
    have fd : (Builtin.Int.intBits m : Int).fdiv 28 = (Builtin.Int.intBits m : Int) / 28 := Int.fdiv_eq_ediv_of_nonneg _ (by omega)
    have np : Builtin.divisionGoesByPylong (Builtin.Int.intBits m : Int) 28 = false := PyProof.noPylong_small (by decide)
    generalize hn : (1 + (Builtin.Int.intBits m : Int) / 28).toNat = n
    have n2 : n ≤ 2 := by omega
    have hu : c.natAbs + n < HUGE := by
      have := big_huge
      omega
    obtain ⟨y, v4', S', h1, h2, h3, h4, h5⟩ := draw_loop (cl := calls T (d + 1)) (g := g) (p := p) (m := m) (fun s c e S => mixed_cl hg d s c e S) hs he _ rfl n LF 0 n 0 c 0 none none S (by omega) (by unfold LF; omega) g0 ⟨hc.1, hu⟩ ⟨by decide, by rw [show (0 : Int).natAbs = 0 from rfl]; exact Nat.two_pow_pos _⟩ (by omega)
    have fm : y.fmod m = y % m := Int.fmod_eq_emod_of_nonneg _ (by omega)
    have b1 : bnd (1 + (Builtin.Int.intBits m : Int) / 28) = true := by unfold bnd; rw [Bool.and_eq_true, decide_eq_true_eq, decide_eq_true_eq]; omega
    have run : exs (calls T (d + 1)) (drawB g) (MP.start 5 [.ref p, .int m]) S = .fl (.rt (.int (y % m))) S' := by
      have m0 : m ≠ 0 := by omega
      unfold drawB
      refine (exs_nx (ρ1 := [some (.ref p), some (.int m), none, none, none]) (S1 := S) ?_).trans ?_
      · simp [exs, ex, ev, evs, tst, R.bind, MP.start, cmpS, blR, subS, g0, ixI, Nat.blt, Nat.ble]
      refine (exs_nx (ρ1 := [some (.ref p), some (.int m), none, some (.int 0), none]) (S1 := S) ?_).trans ?_
      · simp [ex, ev, R.xs, asn]
      refine (exs_nx (ρ1 := [some (.ref p), some (.int m), none, some (.int y), v4']) (S1 := S') ?_).trans ?_
      · have ei : itr (calls T (d + 1)) (.rng (.cons (.bin .add (.int 1) (.bin .fdiv (.mt .bitLength (.var 1) .nil) (.int 28))) .nil)) [some (.ref p), some (.int m), none, some (.int 0), none] S = .ok (.rng 0 n) S := by
          have e1 : binS .fdiv (.int (Builtin.Int.intBits m : Nat)) (.int 28) S = .ok (.int ((Builtin.Int.intBits m : Int) / 28)) S := by
            show (if (decide ((28 : Int) ≠ 0) && !Builtin.divisionGoesByPylong (Builtin.Int.intBits m : Int) 28) = true then R.ok (Vl.int ((Builtin.Int.intBits m : Int).fdiv 28)) S else .bad) = _
            rw [np, fd]
            rfl
          have e0 : evs (calls T (d + 1)) (.cons (.bin .add (.int 1) (.bin .fdiv (.mt .bitLength (.var 1) .nil) (.int 28))) .nil) [some (.ref p), some (.int m), none, some (.int 0), none] S = .ok [.int (1 + (Builtin.Int.intBits m : Int) / 28)] S := by
            show (((binS .fdiv (.int (Builtin.Int.intBits m : Nat)) (.int 28) S).bind fun y S2 => binS .add (.int 1) y S2).bind fun v S1 => R.ok [v] S1) = _
            rw [e1]
            rfl
          exact itr_rng e0 ((rngOf_one b1).trans (congrArg (fun z => some ((0 : Int), z)) hn))
        exact (for_run ei).trans h1
      · simp [exs, ex, ev, evs, R.bind, R.xs, binS, biS, m0, fm]
    show Ok C b 2 S (match exs (calls T (d + 1)) (drawB g) (MP.start 5 [.ref p, .int m]) S with
      | .fl (.nx _) S1 => .ok .non S1
      | .fl (.rt v) S1 => .ok v S1
      | .exc k v _ S1 => .exc k v S1
      | _ => .bad) (Is C) Q
    rw [run]
    obtain ⟨k1, k2⟩ := put_kp (C := C) (b := b) (b' := b + 2) (S' := S') hp hz p0 h3 h4 h5 ha hs ⟨by omega, by omega⟩ he (by omega)
    exact ⟨_, _, .int (y % m), rfl, k1, k2, rfl, q _ (Int.emod_nonneg _ (by omega)) (Int.emod_lt_of_pos _ (by omega))⟩
end MP
namespace MP
open PySem
def purseB : Ss := (.cons (.asg (.name 2) (.bi .sum (.cons (.cut (.var 0) (.var 1) (.bin .add (.var 1) (.int 1))) .nil))) (.cons (.ret (.lst (.cons (.bin .mod (.bi .int1 (.cons (.bi .max2 (.cons (.bin .sub (.var 2) (.bin .pow (.int 10) (.int 18))) (.cons (.int 0) .nil))) .nil)) (.bin .pow (.bin .pow (.int 10) (.int 60)) (.int 8))) (.cons (.bin .mod (.bi .int1 (.cons (.var 2) .nil)) (.int 2147483629)) (.cons (.int 0) (.cons (.var 1) .nil)))))) .nil))
def pursesB (g : Nat) : Ss := (.cons (.ret (.lc [2] (.name 2) (.rng (.cons (.bi .max2 (.cons (.int 1) (.cons (.bi .min2 (.cons (.var 1) (.cons (.bi .len (.cons (.var 0) .nil)) .nil))) .nil))) .nil)) .yes (.call g (.cons (.var 0) (.cons (.var 2) .nil)) []))) .nil)
theorem exs_rt {cl : Nat → List Vl → Sto → R Vl} {s : Sm} {r : Ss} {ρ : MP.Env} {S S1 : Sto} {v : Vl} (h : ex cl s ρ S = .fl (.rt v) S1) : exs cl (.cons s r) ρ S = .fl (.rt v) S1 := by
  show (match ex cl s ρ S with
    | .fl (.nx ρ1) S1 => exs cl r ρ1 S1
    | x => x) = _
  rw [h]
theorem ret_run {cl : Nat → List Vl → Sto → R Vl} {e : E} {ρ : MP.Env} {S S1 : Sto} {v : Vl} (h : ev cl e ρ S = .ok v S1) : ex cl (.ret e) ρ S = .fl (.rt v) S1 := by
  show (ev cl e ρ S).xs ρ (fun v S1 => .fl (.rt v) S1) = _
  rw [h]
  rfl
theorem lst_run {cl : Nat → List Vl → Sto → R Vl} {es : Es} {ρ : MP.Env} {S S1 : Sto} {vs : List Vl} (h : evs cl es ρ S = .ok vs S1) (l : vs.length ≤ lineN) : ev cl (.lst es) ρ S = .ok (.ref S1.n) (S1.push (.lst vs)) := by
  show (evs cl es ρ S).bind (fun vs S1 => newL vs S1) = _
  rw [h]
  show newL vs S1 = _
  unfold newL
  rw [if_pos (Nat.ble_eq_true_of_le l)]
theorem intsOf_map : ∀ ns : List Int, intsOf (ns.map Vl.int) = some ns
  | [] => rfl
  | n :: ns => by
    show (intsOf (ns.map Vl.int)).map (n :: ·) = _
    rw [intsOf_map ns]
    rfl
theorem cutL_map (ns : List Int) (lo hi : Option Int) : ∃ ms : List Int, cutL (ns.map Vl.int) lo hi = ms.map Vl.int := by
  unfold cutL
  rw [← List.map_drop, ← List.map_take]
  exact ⟨_, rfl⟩
theorem purse_run {cl : Nat → List Vl → Sto → R Vl} {ns : List Int} {at_ : Int} {S : Sto} (h0 : S.get 0 = some (.rol (ns.map Vl.int))) :
    ∃ (cut : List Vl) (a s : Int), (0 ≤ a ∧ a < 10 ^ 480) ∧ (0 ≤ s ∧ s < 2147483629) ∧ exs cl purseB (MP.start 3 [.ref 0, .int at_]) S = .fl (.rt (.ref (S.n + 1))) ((S.push (.lst cut)).push (.lst [.int a, .int s, .int 0, .int at_])) := by
  obtain ⟨ms, hms⟩ := cutL_map ns (some at_) (some (at_ + 1))
  have g1 : (S.push (.lst (ms.map Vl.int))).get S.n = some (.lst (ms.map Vl.int)) := by rw [Sto.get_push, if_pos rfl]
  generalize hsd : isum ms = sd
  have p18 : binS .pow (.int 10) (.int 18) (S.push (.lst (ms.map Vl.int))) = .ok (.int (10 ^ 18)) (S.push (.lst (ms.map Vl.int))) := by
    show (if (decide ((0 : Int) ≤ 18) && decide ((Builtin.Int.intBits 10 : Int) * 18 ≤ 134217728)) = true then R.ok (Vl.int (10 ^ (18 : Int).toNat)) (S.push (.lst (ms.map Vl.int))) else .bad) = _
    rw [show (decide ((0 : Int) ≤ 18) && decide ((Builtin.Int.intBits 10 : Int) * 18 ≤ 134217728)) = true by decide +kernel]
    rfl
  have p60 : binS .pow (.int 10) (.int 60) (S.push (.lst (ms.map Vl.int))) = .ok (.int (10 ^ 60)) (S.push (.lst (ms.map Vl.int))) := by
    show (if (decide ((0 : Int) ≤ 60) && decide ((Builtin.Int.intBits 10 : Int) * 60 ≤ 134217728)) = true then R.ok (Vl.int (10 ^ (60 : Int).toNat)) (S.push (.lst (ms.map Vl.int))) else .bad) = _
    rw [show (decide ((0 : Int) ≤ 60) && decide ((Builtin.Int.intBits 10 : Int) * 60 ≤ 134217728)) = true by decide +kernel]
    rfl
  have p480 : binS .pow (.int (10 ^ 60)) (.int 8) (S.push (.lst (ms.map Vl.int))) = .ok (.int ((10 ^ 60) ^ 8)) (S.push (.lst (ms.map Vl.int))) := by
    show (if (decide ((0 : Int) ≤ 8) && decide ((Builtin.Int.intBits (10 ^ 60) : Int) * 8 ≤ 134217728)) = true then R.ok (Vl.int ((10 ^ 60) ^ (8 : Int).toNat)) (S.push (.lst (ms.map Vl.int))) else .bad) = _
    rw [show (decide ((0 : Int) ≤ 8) && decide ((Builtin.Int.intBits (10 ^ 60) : Int) * 8 ≤ 134217728)) = true by decide +kernel]
    rfl
  have md1 : ∀ x : Int, binS .mod (.int x) (.int ((10 ^ 60) ^ 8)) (S.push (.lst (ms.map Vl.int))) = .ok (.int (x % 10 ^ 480)) (S.push (.lst (ms.map Vl.int))) := fun x => by
    show (if decide (((10 : Int) ^ 60) ^ 8 ≠ 0) = true then R.ok (Vl.int (x.fmod ((10 ^ 60) ^ 8))) (S.push (.lst (ms.map Vl.int))) else .bad) = _
    rw [show decide (((10 : Int) ^ 60) ^ 8 ≠ 0) = true by decide +kernel, Int.fmod_eq_emod_of_nonneg _ (by decide +kernel)]
    rfl
  have md2 : ∀ x : Int, binS .mod (.int x) (.int 2147483629) (S.push (.lst (ms.map Vl.int))) = .ok (.int (x % 2147483629)) (S.push (.lst (ms.map Vl.int))) := fun x => by
    show (if decide ((2147483629 : Int) ≠ 0) = true then R.ok (Vl.int (x.fmod 2147483629)) (S.push (.lst (ms.map Vl.int))) else .bad) = _
    rw [show decide ((2147483629 : Int) ≠ 0) = true by decide, Int.fmod_eq_emod_of_nonneg _ (by decide)]
    rfl
  refine ⟨ms.map Vl.int, (if sd - 10 ^ 18 < 0 then 0 else sd - 10 ^ 18) % 10 ^ 480, sd % 2147483629, ⟨Int.emod_nonneg _ (by decide +kernel), Int.emod_lt_of_pos _ (by decide +kernel)⟩, ⟨Int.emod_nonneg _ (by decide), Int.emod_lt_of_pos _ (by decide)⟩, ?_⟩
  unfold purseB
  refine (exs_nx (ρ1 := [some (.ref 0), some (.int at_), some (.int sd)]) (S1 := S.push (.lst (ms.map Vl.int))) ?_).trans ?_
  · have e1 : cutS (.ref 0) (some at_) (some (at_ + 1)) S = .ok (.ref S.n) (S.push (.lst (ms.map Vl.int))) := by simp only [cutS, h0, hms]
    show (((cutS (.ref 0) (some at_) (some (at_ + 1)) S).bind fun v S1 => R.ok [v] S1).bind fun vs S1 => biS .sum vs S1).xs _ (fun v S1 => match asn cl (.name 2) v _ S1 with
      | .ok ρ1 S2 => .fl (.nx ρ1) S2
      | _ => .bad) = _
    rw [e1]
    show (biS .sum [.ref S.n] (S.push (.lst (ms.map Vl.int)))).xs _ _ = _
    have e2 : biS .sum [.ref S.n] (S.push (.lst (ms.map Vl.int))) = .ok (.int sd) (S.push (.lst (ms.map Vl.int))) := by
      simp only [biS, lstOf, g1, Option.bind_some, intsOf_map, hsd]
    rw [e2]
    rfl
  · have e3 : evs cl (.cons (.bin .mod (.bi .int1 (.cons (.bi .max2 (.cons (.bin .sub (.var 2) (.bin .pow (.int 10) (.int 18))) (.cons (.int 0) .nil))) .nil)) (.bin .pow (.bin .pow (.int 10) (.int 60)) (.int 8))) (.cons (.bin .mod (.bi .int1 (.cons (.var 2) .nil)) (.int 2147483629)) (.cons (.int 0) (.cons (.var 1) .nil)))) [some (.ref 0), some (.int at_), some (.int sd)] (S.push (.lst (ms.map Vl.int)))
        = .ok [.int ((if sd - 10 ^ 18 < 0 then 0 else sd - 10 ^ 18) % 10 ^ 480), .int (sd % 2147483629), .int 0, .int at_] (S.push (.lst (ms.map Vl.int))) := by
      simp only [evs, ev, R.bind, p18, List.getElem?_cons_zero, List.getElem?_cons_succ, biS, p60, p480, md1, md2, show ∀ x y : Int, binS .sub (.int x) (.int y) (S.push (.lst (ms.map Vl.int))) = .ok (.int (x - y)) (S.push (.lst (ms.map Vl.int))) from fun _ _ => rfl]
    exact exs_rt (ret_run (lst_run e3 (Nat.le_of_ble_eq_true rfl)))
theorem PurAt.push {b : Nat} {S : Sto} {p : Nat} (h : PurAt b S p) (o : Ob) : PurAt b (S.push o) p := by
  obtain ⟨a, s, c, e, h1, h2⟩ := h
  exact ⟨a, s, c, e, by rw [Sto.get_push, if_neg (Nat.ne_of_lt (Sto.get_lt h1))]; exact h1, h2⟩
theorem PurAt.lt {b : Nat} {S : Sto} {p : Nat} (h : PurAt b S p) : p < S.n := by
  obtain ⟨a, s, c, e, h1, h2⟩ := h
  exact Sto.get_lt h1
theorem push_old {S : Sto} {i : Nat} {o u : Ob} (h : S.get i = some o) : (S.push u).get i = some o := by
  rw [Sto.get_push, if_neg (Nat.ne_of_lt (Sto.get_lt h))]; exact h
theorem purses_loop {cl : Nat → List Vl → Sto → R Vl} {g n : Nat} {ns : List Int} {few : Vl} (hp : ∀ (at_ : Int) (S : Sto), S.get 0 = some (.rol (ns.map Vl.int)) → ∃ (cut : List Vl) (a s : Int), (0 ≤ a ∧ a < 10 ^ 480) ∧ (0 ≤ s ∧ s < 2147483629) ∧ cl g [.ref 0, .int at_] S = .ok (.ref (S.n + 1)) ((S.push (.lst cut)).push (.lst [.int a, .int s, .int 0, .int at_])))
    (hn : n ≤ 63) : ∀ (k f i : Nat) (acc : List Nat) (accv : List Vl) (S : Sto), accv = acc.map .ref → i + k = n → k < f → S.get 0 = some (.rol (ns.map Vl.int)) → (∀ p ∈ acc, PurAt 0 S p) → acc.length = i →
      ∃ (ps : List Nat) (S' : Sto), lcLoop (fun v S' => asn cl (.name 2) v (MP.wipe [some (.ref 0), some few, none] [2]) S') (fun ρ' S' => tst cl .yes ρ' S') (fun ρ' S' => ev cl (.call g (.cons (.var 0) (.cons (.var 2) .nil)) []) ρ' S') (.rng 0 n) f i accv S = .ok (.ref S'.n) (S'.push (.lst (ps.map .ref))) ∧
        (∀ p ∈ ps, PurAt 0 S' p) ∧ ps.length = n
  | 0, f, i, acc, accv, S, hv, hk, hf, h0, ha, hl => by
    match f, hf with
    | f + 1, _ =>
      subst hv
      refine ⟨acc.reverse, S, ?_, fun p hp => ha p (List.mem_reverse.mp hp), by rw [List.length_reverse]; omega⟩
      rw [lc_eq]
      simp only [MP.next]
      rw [if_neg (show ¬ Nat.blt i n = true from fun z => by have : i < n := Nat.le_of_ble_eq_true z; omega)]
      unfold newL
      rw [if_pos (Nat.ble_eq_true_of_le (by rw [List.length_reverse, List.length_map, hl]; unfold lineN; omega)), List.map_reverse]
  | k + 1, f, i, acc, accv, S, hv, hk, hf, h0, ha, hl => by
    match f, hf with
    | f + 1, hf =>
      obtain ⟨cut, a, s, h1, h2, h3⟩ := hp (0 + (i : Nat)) S h0
      have hnew : PurAt 0 ((S.push (.lst cut)).push (.lst [.int a, .int s, .int 0, .int (0 + (i : Nat))])) (S.n + 1) := ⟨a, s, 0, 0 + (i : Nat), by rw [Sto.get_push, if_pos (Sto.n_push S _).symm], h1, h2, by omega, by omega⟩
      obtain ⟨ps, S', e1, e2, e3⟩ := purses_loop hp hn k f (i + 1) ((S.n + 1) :: acc) (.ref (S.n + 1) :: accv) ((S.push (.lst cut)).push (.lst [.int a, .int s, .int 0, .int (0 + (i : Nat))])) (by rw [hv]; rfl) (by omega) (by omega) (push_old (push_old h0)) (fun p hq => by
        rcases List.mem_cons.mp hq with e | e
        · rw [e]; exact hnew
        · exact ((ha p e).push _).push _) (by rw [List.length_cons, hl])
      refine ⟨ps, S', ?_, e2, e3⟩
      rw [← e1, lc_eq]
      simp only [MP.next]
      rw [if_pos (show Nat.blt i n = true from Nat.ble_eq_true_of_le (by omega))]
      have ecl : ev cl (.call g (.cons (.var 0) (.cons (.var 2) .nil)) []) [some (.ref 0), some few, some (.int (0 + (i : Nat)))] S = .ok (.ref (S.n + 1)) ((S.push (.lst cut)).push (.lst [.int a, .int s, .int 0, .int (0 + (i : Nat))])) := h3
      show (match (R.ok ([some (.ref 0), some few, some (.int (0 + (i : Nat)))] : MP.Env) S : R MP.Env) with
        | .ok ρ S2 => match tst cl .yes ρ S2 with
          | .ok true S3 => match ev cl (.call g (.cons (.var 0) (.cons (.var 2) .nil)) []) ρ S3 with
            | .ok y S4 => lcLoop (fun v S' => asn cl (.name 2) v (MP.wipe [some (.ref 0), some few, none] [2]) S') (fun ρ' S' => tst cl .yes ρ' S') (fun ρ' S' => ev cl (.call g (.cons (.var 0) (.cons (.var 2) .nil)) []) ρ' S') (.rng 0 n) f (i + 1) (y :: accv) S4
            | _ => .bad
          | .ok false S3 => lcLoop (fun v S' => asn cl (.name 2) v (MP.wipe [some (.ref 0), some few, none] [2]) S') (fun ρ' S' => tst cl .yes ρ' S') (fun ρ' S' => ev cl (.call g (.cons (.var 0) (.cons (.var 2) .nil)) []) ρ' S') (.rng 0 n) f (i + 1) accv S3
          | _ => .bad
        | _ => .bad) = _
      show (match ev cl (.call g (.cons (.var 0) (.cons (.var 2) .nil)) []) [some (.ref 0), some few, some (.int (0 + (i : Nat)))] S with
            | .ok y S4 => lcLoop (fun v S' => asn cl (.name 2) v (MP.wipe [some (.ref 0), some few, none] [2]) S') (fun ρ' S' => tst cl .yes ρ' S') (fun ρ' S' => ev cl (.call g (.cons (.var 0) (.cons (.var 2) .nil)) []) ρ' S') (.rng 0 n) f (i + 1) (y :: accv) S4
            | _ => .bad) = _
      rw [ecl]
theorem lc_run {cl : Nat → List Vl → Sto → R Vl} {own : List Nat} {tg : Tg} {it : MP.It} {ifs : Tt} {elt : E} {ρ : MP.Env} {S S1 : Sto} {J : Itr} (h : itr cl it ρ S = .ok J S1) :
    ev cl (.lc own tg it ifs elt) ρ S = lcLoop (fun v S' => asn cl tg v (MP.wipe ρ own) S') (fun ρ' S' => tst cl ifs ρ' S') (fun ρ' S' => ev cl elt ρ' S') J LF 0 [] S1 := by
  show (itr cl it ρ S).bind (fun J S1 => lcLoop (fun v S' => asn cl tg v (MP.wipe ρ own) S') (fun ρ' S' => tst cl ifs ρ' S') (fun ρ' S' => ev cl elt ρ' S') J LF 0 [] S1) = _
  rw [h]
  rfl
/-- the purses: a list of them -/
theorem purses_run {T : List Fn} {f g : Nat} (hT : T[f]? = some ⟨2, 3, pursesB g⟩) (hg : T[g]? = some ⟨2, 3, purseB⟩) (d : Nat) {ns : List Int} (few : Nat) (h63 : few ≤ 63 ∧ 1 ≤ few) {S : Sto} (h0 : S.get 0 = some (.rol (ns.map Vl.int))) :
    ∃ (ps : List Nat) (S' : Sto), calls T (d + 2) f [.ref 0, .int few] S = .ok (.ref S'.n) (S'.push (.lst (ps.map .ref))) ∧ (∀ p ∈ ps, PurAt 0 S' p) ∧ ps.length ≤ few := by
  have hp : ∀ (at_ : Int) (S : Sto), S.get 0 = some (.rol (ns.map Vl.int)) → ∃ (cut : List Vl) (a s : Int), (0 ≤ a ∧ a < 10 ^ 480) ∧ (0 ≤ s ∧ s < 2147483629) ∧ calls T (d + 1) g [.ref 0, .int at_] S = .ok (.ref (S.n + 1)) ((S.push (.lst cut)).push (.lst [.int a, .int s, .int 0, .int at_])) := fun at_ S h => by
    obtain ⟨cut, a, s, h1, h2, h3⟩ := purse_run (cl := calls T d) (at_ := at_) h
    refine ⟨cut, a, s, h1, h2, ?_⟩
    rw [calls_eq hg d _ _ rfl, h3]
  -- how many
  obtain ⟨n, hn1, hn2⟩ : ∃ n : Nat, n ≤ few ∧ (if (1 : Int) < (if ((ns.map Vl.int).length : Int) < (few : Int) then ((ns.map Vl.int).length : Int) else (few : Int)) then (if ((ns.map Vl.int).length : Int) < (few : Int) then ((ns.map Vl.int).length : Int) else (few : Int)) else 1) = (n : Int) := by
    by_cases c : ((ns.map Vl.int).length : Int) < (few : Int)
    · rw [if_pos c]
      by_cases c2 : (1 : Int) < ((ns.map Vl.int).length : Int)
      · rw [if_pos c2]; exact ⟨(ns.map Vl.int).length, by omega, rfl⟩
      · rw [if_neg c2]; exact ⟨1, by omega, rfl⟩
    · rw [if_neg c]
      by_cases c2 : (1 : Int) < (few : Int)
      · rw [if_pos c2]; exact ⟨few, Nat.le_refl _, rfl⟩
      · rw [if_neg c2]; exact ⟨1, by omega, rfl⟩
  obtain ⟨ps, S', e1, e2, e3⟩ := purses_loop (cl := calls T (d + 1)) (few := .int few) hp (by omega : n ≤ 63) n LF 0 [] [] S rfl (by omega) (by unfold LF; omega) h0 (fun p h => (List.not_mem_nil h).elim) rfl
  refine ⟨ps, S', ?_, e2, by omega⟩
  rw [calls_eq hT (d + 1) _ _ rfl]
  have ex1 : evs (calls T (d + 1)) (.cons (.bi .max2 (.cons (.int 1) (.cons (.bi .min2 (.cons (.var 1) (.cons (.bi .len (.cons (.var 0) .nil)) .nil))) .nil))) .nil) [some (.ref 0), some (.int few), none] S = .ok [.int n] S := by
    have l1 : lenS S (.ref 0) = some (ns.map Vl.int).length := by simp only [lenS, h0]
    have l2 : biS .len [.ref 0] S = .ok (.int (ns.map Vl.int).length) S := by simp only [biS, l1]
    simp only [evs, ev, R.bind, biS, l1, List.getElem?_cons_zero, List.getElem?_cons_succ]
    rw [hn2]
  have ei : itr (calls T (d + 1)) (.rng (.cons (.bi .max2 (.cons (.int 1) (.cons (.bi .min2 (.cons (.var 1) (.cons (.bi .len (.cons (.var 0) .nil)) .nil))) .nil))) .nil)) [some (.ref 0), some (.int few), none] S = .ok (.rng 0 n) S :=
    itr_rng ex1 ((rngOf_one (by unfold bnd; rw [Bool.and_eq_true, decide_eq_true_eq, decide_eq_true_eq]; omega)).trans (by rw [Int.toNat_natCast]))
  have el : ev (calls T (d + 1)) (.lc [2] (.name 2) (.rng (.cons (.bi .max2 (.cons (.int 1) (.cons (.bi .min2 (.cons (.var 1) (.cons (.bi .len (.cons (.var 0) .nil)) .nil))) .nil))) .nil)) .yes (.call g (.cons (.var 0) (.cons (.var 2) .nil)) [])) [some (.ref 0), some (.int few), none] S = .ok (.ref S'.n) (S'.push (.lst (ps.map .ref))) := by
    exact (lc_run ei).trans e1
  show (match exs (calls T (d + 1)) (pursesB g) [some (.ref 0), some (.int few), none] S with
    | .fl (.nx _) S1 => R.ok Vl.non S1
    | .fl (.rt v) S1 => .ok v S1
    | .exc k v _ S1 => .exc k v S1
    | _ => .bad) = _
  unfold pursesB
  rw [exs_rt (ret_run el)]
end MP
namespace MP
open PySem
def spoiltB (g : Nat) : Ss := (.cons (.ite (.val (.isi (.var 0) [.dict] true)) (.cons (.forr (.name 1) (.seq (.bi .list (.cons (.var 0) .nil))) (.cons (.expr (.call g (.cons (.sub (.var 0) (.var 1)) .nil) [])) .nil)) (.cons (.asg (.sub (.var 0) (.str [77, 79, 82, 69])) (.str [77, 79, 82, 69])) .nil)) .nil) (.cons (.ite (.val (.isi (.var 0) [.list, .tuple] false)) (.cons (.forr (.name 2) (.seq (.var 0)) (.cons (.expr (.call g (.cons (.var 2) .nil) [])) .nil)) .nil) .nil) (.cons (.ite (.val (.isi (.var 0) [.list] true)) (.cons (.expr (.mt .append (.var 0) (.cons (.str [77, 79, 82, 69]) .nil))) .nil) .nil) .nil)))
mutual
def D.nodes : D → Nat
  | .lst _ xs => D.nodesL xs + 1
  | .tup xs => D.nodesL xs + 1
  | _ => 1
def D.nodesL : List D → Nat
  | [] => 0
  | d :: ds => d.nodes + D.nodesL ds
end
mutual
def D.depth : D → Nat
  | .lst _ xs => D.depthL xs + 1
  | .tup xs => D.depthL xs + 1
  | _ => 0
def D.depthL : List D → Nat
  | [] => 0
  | d :: ds => max d.depth (D.depthL ds)
end
def isStrV : Vl → Bool
  | .str _ => true
  | _ => false
mutual
def IsX (C : Wc) (s : Nat) (S : Sto) : D → Vl → Prop
  | .non, v => v = .non
  | .bl b, v => v = .bl b
  | .int i, v => v = .int i
  | .str s, v => v = .str s
  | .lst _ xs, v => ∃ n vs ws, v = .ref n ∧ S.get n = some (.lst (vs ++ ws)) ∧ C.pu n = false ∧ C.n0 ≤ n ∧ IsXL C s S xs vs ∧ (∀ w ∈ ws, isStrV w = true) ∧ ws.length ≤ s
  | .tup xs, v => ∃ n vs, v = .ref n ∧ S.get n = some (.tup vs) ∧ IsXL C s S xs vs
  | .dct, _ => False
  | .pur _, _ => False
def IsXL (C : Wc) (s : Nat) (S : Sto) : List D → List Vl → Prop
  | [], vs => vs = []
  | d :: ds, vs => ∃ v r, vs = v :: r ∧ IsX C s S d v ∧ IsXL C s S ds r
end
/-- new lists may have grown by texts -/
structure Grow (C : Wc) (m : Nat) (S S' : Sto) : Prop where
  n : S'.n = S.n
  obj : ∀ i o, S.get i = some o → S'.get i = some o ∨ ∃ vs ss, o = .lst vs ∧ C.n0 ≤ i ∧ C.pu i = false ∧ S'.get i = some (.lst (vs ++ ss)) ∧ (∀ w ∈ ss, isStrV w = true) ∧ ss.length ≤ m
theorem Grow.refl {C : Wc} {m : Nat} {S : Sto} : Grow C m S S := ⟨rfl, fun _ _ h => .inl h⟩
theorem Grow.mono {C : Wc} {m k : Nat} {S S' : Sto} (h : Grow C m S S') (l : m ≤ k) : Grow C k S S' := ⟨h.n, fun i o g => by
  rcases h.obj i o g with q | ⟨vs, ss, q1, q2, q3, q4, q5, q6⟩
  · exact .inl q
  · exact .inr ⟨vs, ss, q1, q2, q3, q4, q5, by omega⟩⟩
theorem Grow.trans {C : Wc} {m k : Nat} {S S1 S2 : Sto} (a : Grow C m S S1) (b : Grow C k S1 S2) : Grow C (m + k) S S2 := ⟨by rw [b.n, a.n], fun i o g => by
  rcases a.obj i o g with q | ⟨vs, ss, q1, q2, q3, q4, q5, q6⟩
  · rcases b.obj i o q with q | ⟨vs, ss, q1, q2, q3, q4, q5, q6⟩
    · exact .inl q
    · exact .inr ⟨vs, ss, q1, q2, q3, q4, q5, by omega⟩
  · rcases b.obj i _ q4 with q | ⟨vs', ss', e1, e2, e3, e4, e5, e6⟩
    · exact .inr ⟨vs, ss, q1, q2, q3, q, q5, by omega⟩
    · cases e1
      refine .inr ⟨vs, ss ++ ss', q1, q2, q3, by rw [← List.append_assoc]; exact e4, fun w hw => ?_, by rw [List.length_append]; omega⟩
      rcases List.mem_append.mp hw with z | z
      · exact q5 w z
      · exact e5 w z⟩
mutual
theorem IsX.mono {C : Wc} {s t : Nat} {S : Sto} (l : s ≤ t) : ∀ (d : D) {v : Vl}, IsX C s S d v → IsX C t S d v
  | .non, v, h => h
  | .bl b, v, h => h
  | .int b, v, h => h
  | .str b, v, h => h
  | .lst _ xs, v, ⟨n, vs, ws, e, g, p, n0, hl, hs, k⟩ => ⟨n, vs, ws, e, g, p, n0, IsXL.mono l xs hl, hs, by omega⟩
  | .tup xs, v, ⟨n, vs, e, g, hl⟩ => ⟨n, vs, e, g, IsXL.mono l xs hl⟩
  | .dct, v, h => h
  | .pur _, v, h => h
theorem IsXL.mono {C : Wc} {s t : Nat} {S : Sto} (l : s ≤ t) : ∀ (ds : List D) {vs : List Vl}, IsXL C s S ds vs → IsXL C t S ds vs
  | [], vs, h => h
  | d :: ds, vs, ⟨v, r, e, h1, h2⟩ => ⟨v, r, e, IsX.mono l d h1, IsXL.mono l ds h2⟩
end
mutual
theorem IsX.grow {C : Wc} {s m : Nat} {S S' : Sto} (k : Grow C m S S') : ∀ (d : D) {v : Vl}, IsX C s S d v → IsX C (s + m) S' d v
  | .non, v, h => h
  | .bl b, v, h => h
  | .int b, v, h => h
  | .str b, v, h => h
  | .lst _ xs, v, ⟨n, vs, ws, e, g, p, n0, hl, hs, l⟩ => by
    rcases k.obj n _ g with q | ⟨us, ss, q1, q2, q3, q4, q5, q6⟩
    · exact ⟨n, vs, ws, e, q, p, n0, IsXL.grow k xs hl, hs, by omega⟩
    · cases q1
      refine ⟨n, vs, ws ++ ss, e, by rw [← List.append_assoc]; exact q4, p, n0, IsXL.grow k xs hl, fun w hw => ?_, by rw [List.length_append]; omega⟩
      rcases List.mem_append.mp hw with z | z
      · exact hs w z
      · exact q5 w z
  | .tup xs, v, ⟨n, vs, e, g, hl⟩ => by
    rcases k.obj n _ g with q | ⟨us, ss, q1, _⟩
    · exact ⟨n, vs, e, q, IsXL.grow k xs hl⟩
    · cases q1
  | .dct, v, h => h
  | .pur _, v, h => h
theorem IsXL.grow {C : Wc} {s m : Nat} {S S' : Sto} (k : Grow C m S S') : ∀ (ds : List D) {vs : List Vl}, IsXL C s S ds vs → IsXL C (s + m) S' ds vs
  | [], vs, h => h
  | d :: ds, vs, ⟨v, r, e, h1, h2⟩ => ⟨v, r, e, IsX.grow k d h1, IsXL.grow k ds h2⟩
end
theorem exs_at {cl : Nat → List Vl → Sto → R Vl} {ρ : MP.Env} {S : Sto} : exs cl .nil ρ S = .fl (.nx ρ) S := rfl
/-- what is no list, tuple or dict is left -/
theorem spoilt_flat {T : List Fn} {f : Nat} (hT : T[f]? = some ⟨1, 3, spoiltB f⟩) (e : Nat) {v : Vl} {S : Sto} {t : BT} (hb : MP.bt S v = some t) (h1 : anyBT t [.dict] = false) (h2 : anyBT t [.list, .tuple] = false) (h3 : anyBT t [.list] = false) : calls T (e + 1) f [v] S = .ok .non S := by
  rw [calls_eq hT e _ _ rfl]
  have no : ∀ (ts : List BT) (one : Bool) (a : Ss), anyBT t ts = false → ex (calls T e) (.ite (.val (.isi (.var 0) ts one)) a .nil) [some v, none, none] S = .fl (.nx [some v, none, none]) S := fun ts one a h => by
    have et : tst (calls T e) (.val (.isi (.var 0) ts one)) [some v, none, none] S = .ok false S := by
      show ((match MP.bt S v with | some t => R.ok (Vl.bl (anyBT t ts)) S | none => .bad).bind fun x S1 => match truth S1 x with | some b => R.ok b S1 | none => .bad) = _
      rw [hb]
      show (match truth S (Vl.bl (anyBT t ts)) with | some b => R.ok b S | none => .bad) = _
      rw [h]
      rfl
    show (match tst (calls T e) (.val (.isi (.var 0) ts one)) [some v, none, none] S with
      | .ok true S1 => exs (calls T e) a [some v, none, none] S1
      | .ok false S1 => exs (calls T e) .nil [some v, none, none] S1
      | .exc k v' S => .exc k v' [some v, none, none] S
      | .bad => .bad) = _
    rw [et]
    rfl
  have run : exs (calls T e) (spoiltB f) [some v, none, none] S = .fl (.nx [some v, none, none]) S := by
    unfold spoiltB
    exact (exs_nx (no _ _ _ h1)).trans ((exs_nx (no _ _ _ h2)).trans ((exs_nx (no _ _ _ h3)).trans exs_at))
  show (match exs (calls T e) (spoiltB f) [some v, none, none] S with
    | .fl (.nx _) S1 => R.ok Vl.non S1
    | .fl (.rt v) S1 => .ok v S1
    | .exc k v _ S1 => .exc k v S1
    | _ => .bad) = _
  rw [run]
/-- the loop's turn -/
theorem spo_turn {cl : Nat → List Vl → Sto → R Vl} {f g i : Nat} {x : Vl} {v1 v2 : Option Vl} {v : Vl} {S S1 : Sto} {J : Itr} (hn : next J i S = some (some (v, S))) (hc : cl f [v] S = .ok .non S1) :
    forLoop (fun v ρ' S' => asn cl (.name 2) v ρ' S') (fun ρ' S' => exs cl (.cons (.expr (.call f (.cons (.var 2) .nil) [])) .nil) ρ' S') J (g + 1) i [some x, v1, v2] S =
    forLoop (fun v ρ' S' => asn cl (.name 2) v ρ' S') (fun ρ' S' => exs cl (.cons (.expr (.call f (.cons (.var 2) .nil) [])) .nil) ρ' S') J g (i + 1) [some x, v1, some v] S1 := by
  rw [for_eq, hn]
  have eb : exs cl (.cons (.expr (.call f (.cons (.var 2) .nil) [])) .nil) [some x, v1, some v] S = .fl (.nx [some x, v1, some v]) S1 := by
    refine (exs_nx (ρ1 := [some x, v1, some v]) (S1 := S1) ?_).trans exs_at
    show (cl f [v] S).xs _ (fun _ S1 => XS.fl (.nx _) S1) = _
    rw [hc]
    rfl
  show (match exs cl (.cons (.expr (.call f (.cons (.var 2) .nil) [])) .nil) [some x, v1, some v] S with
    | .fl (.nx ρ2) S3 => forLoop (fun v ρ' S' => asn cl (.name 2) v ρ' S') (fun ρ' S' => exs cl (.cons (.expr (.call f (.cons (.var 2) .nil) [])) .nil) ρ' S') J g (i + 1) ρ2 S3
    | .fl (.ct ρ2) S3 => forLoop (fun v ρ' S' => asn cl (.name 2) v ρ' S') (fun ρ' S' => exs cl (.cons (.expr (.call f (.cons (.var 2) .nil) [])) .nil) ρ' S') J g (i + 1) ρ2 S3
    | .fl (.bk ρ2) S3 => .fl (.nx ρ2) S3
    | .fl (.rt v) S3 => .fl (.rt v) S3
    | .exc k v ρ S => .exc k v ρ S
    | .bad => .bad) = _
  rw [eb]
theorem app_at {α : Type} (a : List α) (x : α) (b : List α) : (a ++ x :: b)[a.length]? = some x := by
  rw [List.getElem?_append_right (Nat.le_refl _), Nat.sub_self]
  rfl
/-- over the texts at the end -/
theorem spo_strs {T : List Fn} {f : Nat} (hT : T[f]? = some ⟨1, 3, spoiltB f⟩) (e : Nat) {n : Nat} {x : Vl} {v1 : Option Vl} {S : Sto} : ∀ (ws pre : List Vl) (fu : Nat) (v2 : Option Vl), S.get n = some (.lst (pre ++ ws)) → (∀ w ∈ ws, isStrV w = true) → ws.length < fu →
    ∃ v2', forLoop (fun v ρ' S' => asn (calls T (e + 1)) (.name 2) v ρ' S') (fun ρ' S' => exs (calls T (e + 1)) (.cons (.expr (.call f (.cons (.var 2) .nil) [])) .nil) ρ' S') (.lst n) fu pre.length [some x, v1, v2] S = .fl (.nx [some x, v1, v2']) S
  | [], pre, fu + 1, v2, g, hs, hf => by
    refine ⟨v2, ?_⟩
    have hn : next (.lst n) pre.length S = some none := by
      simp only [MP.next, lstAt, g, List.append_nil]
      rw [List.getElem?_eq_none_iff.mpr (Nat.le_refl _)]
    rw [for_eq, hn]
  | w :: ws, pre, fu + 1, v2, g, hs, hf => by
    have hn : next (.lst n) pre.length S = some (some (w, S)) := by
      simp only [MP.next, lstAt, g, app_at]
    have hw := hs w (List.mem_cons_self ..)
    have hc : calls T (e + 1) f [w] S = .ok .non S := by
      cases w <;> first | (cases hw; done) | skip
      exact spoilt_flat hT e (t := .str) rfl rfl rfl rfl
    obtain ⟨v2', h⟩ := spo_strs hT e (x := x) (v1 := v1) ws (pre ++ [w]) fu (some w) (by rw [List.append_assoc]; exact g) (fun u hu => hs u (List.mem_cons_of_mem _ hu)) (by rw [List.length_cons] at hf; omega)
    refine ⟨v2', ?_⟩
    rw [spo_turn hn hc, ← h, List.length_append]
    rfl
  | _, _, 0, _, _, _, hf => absurd hf (Nat.not_lt_zero _)
/-- what is kept for one tree -/
def SpoOk (C : Wc) (cl : Nat → List Vl → Sto → R Vl) (f : Nat) (d : D) : Prop := ∀ (v : Vl) (S : Sto) (s : Nat), IsX C s S d v → s + 2 * d.nodes + 2 ≤ lineN → ∃ S', cl f [v] S = .ok .non S' ∧ Grow C d.nodes S S'
theorem spo_items {C : Wc} {T : List Fn} {f : Nat} (hT : T[f]? = some ⟨1, 3, spoiltB f⟩) (e : Nat) {n : Nat} {x : Vl} {v1 : Option Vl} : ∀ (xs : List D) (vs pre ws : List Vl) (fu s : Nat) (v2 : Option Vl) (S : Sto), (∀ d ∈ xs, SpoOk C (calls T (e + 1)) f d) → S.get n = some (.lst (pre ++ (vs ++ ws))) → IsXL C s S xs vs → (∀ w ∈ ws, isStrV w = true) → ws.length ≤ s →
    s + 2 * D.nodesL xs + 2 ≤ lineN → xs.length + s + D.nodesL xs < fu →
    ∃ v2' S', forLoop (fun v ρ' S' => asn (calls T (e + 1)) (.name 2) v ρ' S') (fun ρ' S' => exs (calls T (e + 1)) (.cons (.expr (.call f (.cons (.var 2) .nil) [])) .nil) ρ' S') (.lst n) fu pre.length [some x, v1, v2] S = .fl (.nx [some x, v1, v2']) S' ∧ Grow C (D.nodesL xs) S S'
  | [], vs, pre, ws, fu, s, v2, S, ih, g, hx, hs, hl, hz, hf => by
    cases (show vs = [] from hx)
    obtain ⟨v2', h⟩ := spo_strs hT e (x := x) (v1 := v1) ws pre fu v2 g hs (by omega)
    exact ⟨v2', S, h, Grow.refl⟩
  | d :: xs, vs, pre, ws, fu, s, v2, S, ih, g, ⟨v, r, ev, h1, h2⟩, hs, hl, hz, hf => by
    subst ev
    have hz : s + 2 * (d.nodes + D.nodesL xs) + 2 ≤ lineN := hz
    have hf : (d :: xs).length + s + (d.nodes + D.nodesL xs) < fu := hf
    rw [List.length_cons] at hf
    match fu, hf with
    | fu + 1, hf =>
      obtain ⟨S1, c1, k1⟩ := ih d (List.mem_cons_self ..) v S s h1 (by omega)
      have hn : next (.lst n) pre.length S = some (some (v, S)) := by
        simp only [MP.next, lstAt, g, List.cons_append, app_at]
      obtain ⟨ws', g1, hs1, hl1⟩ : ∃ ws', S1.get n = some (.lst ((pre ++ [v]) ++ (r ++ ws'))) ∧ (∀ w ∈ ws', isStrV w = true) ∧ ws'.length ≤ s + d.nodes := by
        rcases k1.obj n _ g with q | ⟨us, ss, q1, q2, q3, q4, q5, q6⟩
        · exact ⟨ws, by rw [q]; simp, hs, by omega⟩
        · cases q1
          refine ⟨ws ++ ss, by rw [q4]; simp, fun w hw => ?_, by rw [List.length_append]; omega⟩
          rcases List.mem_append.mp hw with z | z
          · exact hs w z
          · exact q5 w z
      obtain ⟨v2', S2, h, k2⟩ := spo_items hT e (x := x) (v1 := v1) xs r (pre ++ [v]) ws' fu (s + d.nodes) (some v) S1 (fun d' hd => ih d' (List.mem_cons_of_mem _ hd)) g1 (IsXL.grow k1 xs h2) hs1 hl1 (by omega) (by omega)
      refine ⟨v2', S2, ?_, k1.trans k2⟩
      rw [spo_turn hn c1, ← h, List.length_append]
      rfl
theorem spo_itemsT {C : Wc} {T : List Fn} {f : Nat} (hT : T[f]? = some ⟨1, 3, spoiltB f⟩) (e : Nat) {n : Nat} {x : Vl} {v1 : Option Vl} : ∀ (xs : List D) (vs pre : List Vl) (fu s : Nat) (v2 : Option Vl) (S : Sto), (∀ d ∈ xs, SpoOk C (calls T (e + 1)) f d) → S.get n = some (.tup (pre ++ vs)) → IsXL C s S xs vs →
    s + 2 * D.nodesL xs + 2 ≤ lineN → xs.length < fu →
    ∃ v2' S', forLoop (fun v ρ' S' => asn (calls T (e + 1)) (.name 2) v ρ' S') (fun ρ' S' => exs (calls T (e + 1)) (.cons (.expr (.call f (.cons (.var 2) .nil) [])) .nil) ρ' S') (.tup n) fu pre.length [some x, v1, v2] S = .fl (.nx [some x, v1, v2']) S' ∧ Grow C (D.nodesL xs) S S'
  | [], vs, pre, fu, s, v2, S, ih, g, hx, hz, hf => by
    cases (show vs = [] from hx)
    match fu, hf with
    | fu + 1, hf =>
      refine ⟨v2, S, ?_, Grow.refl⟩
      have hn : next (.tup n) pre.length S = some none := by
        simp only [MP.next, tupAt, g, List.append_nil]
        rw [List.getElem?_eq_none_iff.mpr (Nat.le_refl _)]
      rw [for_eq, hn]
  | d :: xs, vs, pre, fu, s, v2, S, ih, g, ⟨v, r, ev, h1, h2⟩, hz, hf => by
    subst ev
    have hz : s + 2 * (d.nodes + D.nodesL xs) + 2 ≤ lineN := hz
    rw [List.length_cons] at hf
    match fu, hf with
    | fu + 1, hf =>
      obtain ⟨S1, c1, k1⟩ := ih d (List.mem_cons_self ..) v S s h1 (by omega)
      have hn : next (.tup n) pre.length S = some (some (v, S)) := by
        simp only [MP.next, tupAt, g, app_at]
      have g1 : S1.get n = some (.tup ((pre ++ [v]) ++ r)) := by
        rcases k1.obj n _ g with q | ⟨us, ss, q1, _⟩
        · rw [q]; simp
        · cases q1
      obtain ⟨v2', S2, h, k2⟩ := spo_itemsT hT e (x := x) (v1 := v1) xs r (pre ++ [v]) fu (s + d.nodes) (some v) S1 (fun d' hd => ih d' (List.mem_cons_of_mem _ hd)) g1 (IsXL.grow k1 xs h2) (by omega) (by omega)
      refine ⟨v2', S2, ?_, k1.trans k2⟩
      rw [spo_turn hn c1, ← h, List.length_append]
      rfl
end MP
namespace MP
open PySem
theorem IsXL.len {C : Wc} {s : Nat} {S : Sto} : ∀ {xs : List D} {vs : List Vl}, IsXL C s S xs vs → vs.length = xs.length
  | [], vs, h => by cases (show vs = [] from h); rfl
  | d :: xs, vs, ⟨v, r, e, h1, h2⟩ => by rw [e, List.length_cons, List.length_cons, IsXL.len h2]
theorem nodes_pos : ∀ d : D, 1 ≤ d.nodes := fun d => by cases d <;> simp [D.nodes]
theorem len_nodes : ∀ xs : List D, xs.length ≤ D.nodesL xs
  | [] => Nat.zero_le _
  | d :: xs => by
    have := nodes_pos d
    have := len_nodes xs
    show xs.length + 1 ≤ d.nodes + D.nodesL xs
    omega
theorem depth_mem : ∀ {xs : List D} {d : D}, d ∈ xs → d.depth ≤ D.depthL xs
  | [], d, h => (List.not_mem_nil h).elim
  | e :: xs, d, h => by
    show d.depth ≤ max e.depth (D.depthL xs)
    rcases List.mem_cons.mp h with z | z
    · rw [z]; exact Nat.le_max_left _ _
    · exact Nat.le_trans (depth_mem z) (Nat.le_max_right _ _)
theorem ite_run {cl : Nat → List Vl → Sto → R Vl} {v : Vl} {ρ : MP.Env} {ts : List BT} {one : Bool} {a : Ss} {S : Sto} {t : BT} (h0 : ρ[0]? = some (some v)) (hb : MP.bt S v = some t) :
    ex cl (.ite (.val (.isi (.var 0) ts one)) a .nil) ρ S = if anyBT t ts = true then exs cl a ρ S else .fl (.nx ρ) S := by
  have et : tst cl (.val (.isi (.var 0) ts one)) ρ S = .ok (anyBT t ts) S := by
    have ev1 : ev cl (.var 0) ρ S = .ok v S := by
      show (match ρ[0]? with
        | some (some v) => R.ok v S
        | _ => .bad) = _
      rw [h0]
    show (((ev cl (.var 0) ρ S).bind fun x S1 => match MP.bt S1 x with | some t => R.ok (Vl.bl (anyBT t ts)) S1 | none => .bad).bind fun x S1 => match truth S1 x with | some b => R.ok b S1 | none => .bad) = _
    rw [ev1]
    show ((match MP.bt S v with | some t => R.ok (Vl.bl (anyBT t ts)) S | none => .bad).bind fun x S1 => match truth S1 x with | some b => R.ok b S1 | none => .bad) = _
    rw [hb]
    rfl
  show (match tst cl (.val (.isi (.var 0) ts one)) ρ S with
    | .ok true S1 => exs cl a ρ S1
    | .ok false S1 => exs cl .nil ρ S1
    | .exc k v' S => .exc k v' ρ S
    | .bad => .bad) = _
  rw [et]
  cases anyBT t ts with
  | true => rw [if_pos rfl]
  | false => rw [if_neg Bool.false_ne_true]; rfl
theorem spoilt_ok {C : Wc} {T : List Fn} {f : Nat} (hT : T[f]? = some ⟨1, 3, spoiltB f⟩) : ∀ (k : Nat) (d : D), d.depth ≤ k → ∀ e : Nat, SpoOk C (calls T (k + 1 + e)) f d := by
  have flat : ∀ (k e : Nat) (d : D) (t : BT), (∀ (v : Vl) (S : Sto) (s : Nat), IsX C s S d v → MP.bt S v = some t) → anyBT t [.dict] = false → anyBT t [.list, .tuple] = false → anyBT t [.list] = false → SpoOk C (calls T (k + 1 + e)) f d := fun k e d t h h1 h2 h3 v S s hx hz => by
    rw [show k + 1 + e = (k + e) + 1 by omega]
    exact ⟨S, spoilt_flat hT (k + e) (h v S s hx) h1 h2 h3, Grow.refl⟩
  intro k
  induction k with
  | zero =>
    intro d hd e
    cases d with
    | non => exact flat 0 e _ .none (fun v S s h => by cases (show v = _ from h); rfl) rfl rfl rfl
    | bl b => exact flat 0 e _ .bool (fun v S s h => by cases (show v = _ from h); rfl) rfl rfl rfl
    | int b => exact flat 0 e _ .int (fun v S s h => by cases (show v = _ from h); rfl) rfl rfl rfl
    | str b => exact flat 0 e _ .str (fun v S s h => by cases (show v = _ from h); rfl) rfl rfl rfl
    | lst t xs => exact absurd hd (by simp [D.depth])
    | tup xs => exact absurd hd (by simp [D.depth])
    | dct => exact fun v S s h _ => h.elim
    | pur n => exact fun v S s h _ => h.elim
  | succ k ih =>
    intro d hd e
    cases d with
    | non => exact flat (k + 1) e _ .none (fun v S s h => by cases (show v = _ from h); rfl) rfl rfl rfl
    | bl b => exact flat (k + 1) e _ .bool (fun v S s h => by cases (show v = _ from h); rfl) rfl rfl rfl
    | int b => exact flat (k + 1) e _ .int (fun v S s h => by cases (show v = _ from h); rfl) rfl rfl rfl
    | str b => exact flat (k + 1) e _ .str (fun v S s h => by cases (show v = _ from h); rfl) rfl rfl rfl
    | dct => exact fun v S s h _ => h.elim
    | pur n => exact fun v S s h _ => h.elim
    | tup xs =>
      intro v S s ⟨n, vs, ev, g, hx⟩ hz
      subst ev
      have hd : D.depthL xs + 1 ≤ k + 1 := hd
      have hz : s + 2 * (D.nodesL xs + 1) + 2 ≤ lineN := hz
      have ihx : ∀ d' ∈ xs, SpoOk C (calls T ((k + e) + 1)) f d' := fun d' h => by
        rw [show (k + e) + 1 = k + 1 + e by omega]
        exact ih d' (Nat.le_trans (depth_mem h) (by omega)) e
      have hlen := IsXL.len hx
      obtain ⟨v2', S1, h1, k1⟩ := spo_itemsT hT (k + e) (x := .ref n) (v1 := none) xs vs [] LF s none S ihx g hx (by omega) (by have := len_nodes xs; unfold LF; unfold lineN at hz; omega)
      refine ⟨S1, ?_, k1.mono (Nat.le_succ _)⟩
      rw [show k + 1 + 1 + e = ((k + e) + 1) + 1 by omega, calls_eq hT _ _ _ rfl]
      have b0 : MP.bt S (.ref n) = some .tuple := by simp only [MP.bt, g]
      have b1 : MP.bt S1 (.ref n) = some .tuple := by
        rcases k1.obj n _ g with q | ⟨us, ss, q1, _⟩
        · simp only [MP.bt, q]
        · cases q1
      have run : exs (calls T ((k + e) + 1)) (spoiltB f) [some (.ref n), none, none] S = .fl (.nx [some (.ref n), none, v2']) S1 := by
        unfold spoiltB
        refine (exs_nx (ρ1 := [some (.ref n), none, none]) (S1 := S) (ite_run rfl b0)).trans ?_
        refine (exs_nx (ρ1 := [some (.ref n), none, v2']) (S1 := S1) ((ite_run rfl b0).trans ?_)).trans ?_
        · show exs (calls T ((k + e) + 1)) _ _ S = _
          refine (exs_nx (ρ1 := [some (.ref n), none, v2']) (S1 := S1) ?_).trans exs_at
          have ei : itr (calls T ((k + e) + 1)) (.seq (.var 0)) [some (.ref n), none, none] S = .ok (.tup n) S := by
            show (match seqItr S (.ref n) with | some J => R.ok J S | none => .bad) = _
            simp only [seqItr, g]
          exact (for_run ei).trans h1
        · exact (exs_nx (ρ1 := [some (.ref n), none, v2']) (S1 := S1) (ite_run rfl b1)).trans exs_at
      show (match exs (calls T ((k + e) + 1)) (spoiltB f) [some (.ref n), none, none] S with
        | .fl (.nx _) S1 => R.ok Vl.non S1
        | .fl (.rt v) S1 => .ok v S1
        | .exc k v _ S1 => .exc k v S1
        | _ => .bad) = _
      rw [run]
    | lst t xs =>
      intro v S s ⟨n, vs, ws, ev, g, pn, n0, hx, hs, hl⟩ hz
      subst ev
      have hd : D.depthL xs + 1 ≤ k + 1 := hd
      have hz : s + 2 * (D.nodesL xs + 1) + 2 ≤ lineN := hz
      have ihx : ∀ d' ∈ xs, SpoOk C (calls T ((k + e) + 1)) f d' := fun d' h => by
        rw [show (k + e) + 1 = k + 1 + e by omega]
        exact ih d' (Nat.le_trans (depth_mem h) (by omega)) e
      have hlen := IsXL.len hx
      have hln := len_nodes xs
      obtain ⟨v2', S1, h1, k1⟩ := spo_items hT (k + e) (x := .ref n) (v1 := none) xs vs [] ws LF s none S ihx g hx hs hl (by omega) (by unfold LF; unfold lineN at hz; omega)
      obtain ⟨us, g1, hu⟩ : ∃ us, S1.get n = some (.lst us) ∧ us.length ≤ vs.length + ws.length + D.nodesL xs := by
        rcases k1.obj n _ g with q | ⟨us, ss, q1, q2, q3, q4, q5, q6⟩
        · exact ⟨_, q, by rw [List.length_append]; omega⟩
        · cases q1
          exact ⟨_, q4, by rw [List.length_append, List.length_append]; omega⟩
      have hmore : (⟨[77, 79, 82, 69].toArray⟩ : Str) = ⟨[77, 79, 82, 69].toArray⟩ := rfl
      refine ⟨S1.set n (.lst (us ++ [.str ⟨[77, 79, 82, 69].toArray⟩])), ?_, ?_⟩
      · rw [show k + 1 + 1 + e = ((k + e) + 1) + 1 by omega, calls_eq hT _ _ _ rfl]
        have b0 : MP.bt S (.ref n) = some .list := by simp only [MP.bt, g]
        have b1 : MP.bt S1 (.ref n) = some .list := by simp only [MP.bt, g1]
        have run : exs (calls T ((k + e) + 1)) (spoiltB f) [some (.ref n), none, none] S = .fl (.nx [some (.ref n), none, v2']) (S1.set n (.lst (us ++ [.str ⟨[77, 79, 82, 69].toArray⟩]))) := by
          unfold spoiltB
          refine (exs_nx (ρ1 := [some (.ref n), none, none]) (S1 := S) (ite_run rfl b0)).trans ?_
          refine (exs_nx (ρ1 := [some (.ref n), none, v2']) (S1 := S1) ((ite_run rfl b0).trans ?_)).trans ?_
          · show exs (calls T ((k + e) + 1)) _ _ S = _
            refine (exs_nx (ρ1 := [some (.ref n), none, v2']) (S1 := S1) ?_).trans exs_at
            have ei : itr (calls T ((k + e) + 1)) (.seq (.var 0)) [some (.ref n), none, none] S = .ok (.lst n) S := by
              show (match seqItr S (.ref n) with | some J => R.ok J S | none => .bad) = _
              simp only [seqItr, g]
            exact (for_run ei).trans h1
          · refine (exs_nx (ρ1 := [some (.ref n), none, v2']) (S1 := S1.set n (.lst (us ++ [.str ⟨[77, 79, 82, 69].toArray⟩]))) ((ite_run rfl b1).trans ?_)).trans exs_at
            show exs (calls T ((k + e) + 1)) _ _ S1 = _
            refine (exs_nx (ρ1 := [some (.ref n), none, v2']) (S1 := S1.set n (.lst (us ++ [.str ⟨[77, 79, 82, 69].toArray⟩]))) ?_).trans exs_at
            have em : mtS .append (.ref n) [.str ⟨[77, 79, 82, 69].toArray⟩] S1 = .ok .non (S1.set n (.lst (us ++ [.str ⟨[77, 79, 82, 69].toArray⟩]))) := by
              simp only [mtS, g1]
              rw [if_pos (show Nat.blt us.length lineN = true from Nat.ble_eq_true_of_le (by omega))]
            have et : mtTy .append S1 (.ref n) = true := by simp only [mtTy, lstOf, g1]; rfl
            show ((if mtTy .append S1 (.ref n) then mtS .append (.ref n) [.str ⟨[77, 79, 82, 69].toArray⟩] S1 else .bad).xs _ (fun _ S1 => XS.fl (.nx _) S1)) = _
            rw [et, em]
            rfl
        show (match exs (calls T ((k + e) + 1)) (spoiltB f) [some (.ref n), none, none] S with
          | .fl (.nx _) S1 => R.ok Vl.non S1
          | .fl (.rt v) S1 => .ok v S1
          | .exc k v _ S1 => .exc k v S1
          | _ => .bad) = _
        rw [run]
      · refine k1.trans ⟨Sto.n_set .., fun i o h => ?_⟩
        by_cases c : n = i
        · subst c
          rw [g1] at h
          cases h
          exact .inr ⟨us, [.str ⟨[77, 79, 82, 69].toArray⟩], rfl, n0, pn, set_get g1, fun w hw => (by rw [List.mem_singleton] at hw; rw [hw]; rfl), Nat.le_refl 1⟩
        · exact .inl (by rw [Sto.get_set, if_neg fun z => c z.1]; exact h)
end MP
namespace MP
open PySem
/-- no cells -/
def nc : Nat → Option (List Vl) := fun _ => none
mutual
def D.new : D → Bool
  | .lst t xs => t && D.newL xs
  | .tup xs => D.newL xs
  | .dct => false
  | .pur _ => false
  | _ => true
def D.newL : List D → Bool
  | [] => true
  | d :: ds => d.new && D.newL ds
end
mutual
def D.old : D → Bool
  | .lst t xs => !t && D.oldL xs
  | .tup xs => D.oldL xs
  | _ => true
def D.oldL : List D → Bool
  | [] => true
  | d :: ds => d.old && D.oldL ds
end
mutual
def D.re : D → D
  | .lst _ xs => .lst false (D.reL xs)
  | .tup xs => .tup (D.reL xs)
  | d => d
def D.reL : List D → List D
  | [] => []
  | d :: ds => d.re :: D.reL ds
end
mutual
theorem isX_of {C : Wc} {S : Sto} : ∀ (d : D) {v : Vl}, Is C S d v → d.new = true → IsX C 0 S d v
  | .non, v, h, _ => h
  | .bl b, v, h, _ => h
  | .int b, v, h, _ => h
  | .str b, v, h, _ => h
  | .lst t xs, v, ⟨n, vs, e, g, p, ht, hl⟩, hn => by
    obtain ⟨h1, h2⟩ := and2 hn
    subst h1
    exact ⟨n, vs, [], e, by rw [List.append_nil]; exact g, p, of_decide_eq_true ht.symm, isXL_of xs hl h2, fun w hw => (List.not_mem_nil hw).elim, Nat.le_refl _⟩
  | .tup xs, v, ⟨n, vs, e, g, p, hl⟩, hn => ⟨n, vs, e, g, isXL_of xs hl hn⟩
  | .dct, v, h, hn => by cases hn
  | .pur n, v, h, hn => by cases hn
theorem isXL_of {C : Wc} {S : Sto} : ∀ (ds : List D) {vs : List Vl}, IsL C S ds vs → D.newL ds = true → IsXL C 0 S ds vs
  | [], vs, h, _ => h
  | d :: ds, vs, ⟨v, r, e, h1, h2⟩, hn => by
    obtain ⟨n1, n2⟩ := and2 hn
    exact ⟨v, r, e, isX_of d h1 n1, isXL_of ds h2 n2⟩
end
mutual
theorem Is.re {pu : Nat → Bool} {n0 n1 : Nat} {S : Sto} (l : S.n ≤ n1) : ∀ (d : D) {v : Vl}, Is ⟨n0, pu, nc⟩ S d v → Is ⟨n1, pu, nc⟩ S d.re v
  | .non, v, h => h
  | .bl b, v, h => h
  | .int b, v, h => h
  | .str b, v, h => h
  | .lst t xs, v, ⟨n, vs, e, g, p, ht, hl⟩ => ⟨n, vs, e, g, p, (decide_eq_false (by have := Sto.get_lt g; show ¬ n1 ≤ n; omega)).symm, IsL.re l xs hl⟩
  | .tup xs, v, ⟨n, vs, e, g, p, hl⟩ => ⟨n, vs, e, g, p, IsL.re l xs hl⟩
  | .dct, v, h => h
  | .pur n, v, h => h
theorem IsL.re {pu : Nat → Bool} {n0 n1 : Nat} {S : Sto} (l : S.n ≤ n1) : ∀ (ds : List D) {vs : List Vl}, IsL ⟨n0, pu, nc⟩ S ds vs → IsL ⟨n1, pu, nc⟩ S (D.reL ds) vs
  | [], vs, h => h
  | d :: ds, vs, ⟨v, r, e, h1, h2⟩ => ⟨v, r, e, Is.re l d h1, IsL.re l ds h2⟩
end
mutual
theorem Is.spo {C : Wc} {m : Nat} {S S' : Sto} (k : Grow C m S S') : ∀ (d : D) {v : Vl}, Is C S d v → d.old = true → Is C S' d v
  | .non, v, h, _ => h
  | .bl b, v, h, _ => h
  | .int b, v, h, _ => h
  | .str b, v, h, _ => h
  | .lst t xs, v, ⟨n, vs, e, g, p, ht, hl⟩, ho => by
    obtain ⟨h1, h2⟩ := and2 ho
    rcases k.obj n _ g with q | ⟨us, ss, q1, q2, _⟩
    · exact ⟨n, vs, e, q, p, ht, IsL.spo k xs hl h2⟩
    · rw [decide_eq_true q2] at ht
      rw [ht] at h1
      cases h1
  | .tup xs, v, ⟨n, vs, e, g, p, hl⟩, ho => by
    rcases k.obj n _ g with q | ⟨us, ss, q1, _⟩
    · exact ⟨n, vs, e, q, p, IsL.spo k xs hl ho⟩
    · cases q1
  | .dct, v, ⟨n, e, g, p⟩, _ => by
    rcases k.obj n _ g with q | ⟨us, ss, q1, _⟩
    · exact ⟨n, e, q, p⟩
    · cases q1
  | .pur n, v, h, _ => h
theorem IsL.spo {C : Wc} {m : Nat} {S S' : Sto} (k : Grow C m S S') : ∀ (ds : List D) {vs : List Vl}, IsL C S ds vs → D.oldL ds = true → IsL C S' ds vs
  | [], vs, h, _ => h
  | d :: ds, vs, ⟨v, r, e, h1, h2⟩, ho => by
    obtain ⟨n1, n2⟩ := and2 ho
    exact ⟨v, r, e, Is.spo k d h1 n1, IsL.spo k ds h2 n2⟩
end
def dropNew : Option D → Option D
  | some d => if d.old = true then some d else none
  | none => none
def reE (δ : PEnv) : PEnv := δ.map fun o => o.map D.re
section
variable (wc : WCl) (spi : Nat)
def wqE (e : E) (δ : PEnv) (K : PEnds) : Prop := match e with
  | .call f (.cons a .nil) [] => if f = spi then wpE wc a δ (fun d => (d.new = true ∧ 2 * d.nodes + 2 ≤ lineN ∧ d.depth ≤ 30) ∧ K.nx (δ.map dropNew)) else wpE wc e δ fun _ => K.nx δ
  | _ => wpE wc e δ fun _ => K.nx δ
mutual
def wqS : Sm → PEnv → PEnds → Prop
  | .expr e, δ, K => wqE wc spi e δ K
  | .ite c a b, δ, K => wpT wc c δ fun t => match t with
    | true => wqSs a δ K
    | false => wqSs b δ K
  | s, δ, K => wpS wc s δ K
termination_by structural x => x
/-- ahead of each statement a mark may be set: what is there is old then -/
def wqSs : Ss → PEnv → PEnds → Prop
  | .nil, δ, K => K.nx δ
  | .cons s r, δ, K => wqS s δ { K with nx := fun δ1 => wqSs r δ1 K } ∨ wqS s (reE δ) { K with nx := fun δ1 => wqSs r δ1 K }
termination_by structural x => x
end
end
structure KpQ (pu : Nat → Bool) (n0 : Nat) (S S' : Sto) : Prop where
  n : S.n ≤ S'.n
  keep : ∀ i o, S.get i = some o → i < n0 → pu i = false → S'.get i = some o
def OkQ (pu : Nat → Bool) (n0 b k : Nat) (S : Sto) (r : XS) (K : PEnds) : Prop := match r with
  | .fl (.nx ρ) S' => KpQ pu n0 S S' ∧ ∃ n1, n0 ≤ n1 ∧ PuOk ⟨n1, pu, nc⟩ (b + k) S' ∧ ∃ δ, EnvI ⟨n1, pu, nc⟩ S' ρ δ ∧ K.nx δ
  | .fl (.bk ρ) S' => KpQ pu n0 S S' ∧ ∃ n1, n0 ≤ n1 ∧ PuOk ⟨n1, pu, nc⟩ (b + k) S' ∧ ∃ δ, EnvI ⟨n1, pu, nc⟩ S' ρ δ ∧ K.bk δ
  | .fl (.ct ρ) S' => KpQ pu n0 S S' ∧ ∃ n1, n0 ≤ n1 ∧ PuOk ⟨n1, pu, nc⟩ (b + k) S' ∧ ∃ δ, EnvI ⟨n1, pu, nc⟩ S' ρ δ ∧ K.ct δ
  | .fl (.rt v) S' => KpQ pu n0 S S' ∧ ∃ n1, n0 ≤ n1 ∧ PuOk ⟨n1, pu, nc⟩ (b + k) S' ∧ ∃ d, Is ⟨n1, pu, nc⟩ S' d v ∧ K.rt d
  | _ => False
theorem KpQ.of {pu : Nat → Bool} {n0 : Nat} {S S' : Sto} (h : Kp ⟨n0, pu, nc⟩ S S') : KpQ pu n0 S S' := ⟨h.n, fun i o g _ p => h.keep i o g p⟩
theorem KpQ.trans {pu : Nat → Bool} {n0 n1 : Nat} {S S1 S2 : Sto} (a : KpQ pu n0 S S1) (l : n0 ≤ n1) (b : KpQ pu n1 S1 S2) : KpQ pu n0 S S2 := ⟨Nat.le_trans a.n b.n, fun i o g h p => b.keep i o (a.keep i o g h p) (by omega) p⟩
theorem OkQ.of {pu : Nat → Bool} {n0 b k : Nat} {S : Sto} {r : XS} {K : PEnds} (h : OkS ⟨n0, pu, nc⟩ b k S r K) : OkQ pu n0 b k S r K := by
  cases r with
  | fl f S' => cases f with
    | nx ρ => exact ⟨.of h.1, n0, Nat.le_refl _, h.2.1, h.2.2⟩
    | bk ρ => exact ⟨.of h.1, n0, Nat.le_refl _, h.2.1, h.2.2⟩
    | ct ρ => exact ⟨.of h.1, n0, Nat.le_refl _, h.2.1, h.2.2⟩
    | rt v => exact ⟨.of h.1, n0, Nat.le_refl _, h.2.1, h.2.2⟩
  | _ => exact h
theorem OkQ.after {pu : Nat → Bool} {n0 n1 b b' k k' : Nat} {S S1 : Sto} {r : XS} {K : PEnds} (h : OkQ pu n1 b' k' S1 r K) (kp : KpQ pu n0 S S1) (hn : n0 ≤ n1) (l : b' + k' ≤ b + k) : OkQ pu n0 b k S r K := by
  cases r with
  | fl f S' => cases f with
    | nx ρ => obtain ⟨h1, n2, h2, h3, h4⟩ := h; exact ⟨kp.trans hn h1, n2, Nat.le_trans hn h2, h3.mono l, h4⟩
    | bk ρ => obtain ⟨h1, n2, h2, h3, h4⟩ := h; exact ⟨kp.trans hn h1, n2, Nat.le_trans hn h2, h3.mono l, h4⟩
    | ct ρ => obtain ⟨h1, n2, h2, h3, h4⟩ := h; exact ⟨kp.trans hn h1, n2, Nat.le_trans hn h2, h3.mono l, h4⟩
    | rt v => obtain ⟨h1, n2, h2, h3, h4⟩ := h; exact ⟨kp.trans hn h1, n2, Nat.le_trans hn h2, h3.mono l, h4⟩
  | _ => exact h
theorem EnvI.re {pu : Nat → Bool} {n0 : Nat} {S : Sto} {ρ : MP.Env} {δ : PEnv} (h : EnvI ⟨n0, pu, nc⟩ S ρ δ) : EnvI ⟨S.n, pu, nc⟩ S ρ (reE δ) := by
  refine ⟨by unfold reE; rw [List.length_map]; exact h.1, fun i d q => ?_⟩
  unfold reE at q
  rw [List.getElem?_map] at q
  cases e : δ[i]? with
  | none => rw [e] at q; cases q
  | some o =>
    cases o with
    | none => rw [e] at q; cases q
    | some d0 =>
      rw [e] at q
      cases q
      obtain ⟨v, h1, h2⟩ := h.2 i d0 e
      exact ⟨v, h1, Is.re (Nat.le_refl _) d0 h2⟩
theorem EnvI.spo {C : Wc} {m : Nat} {S S' : Sto} {ρ : MP.Env} {δ : PEnv} (k : Grow C m S S') (h : EnvI C S ρ δ) : EnvI C S' ρ (δ.map dropNew) := by
  refine ⟨by rw [List.length_map]; exact h.1, fun i d q => ?_⟩
  rw [List.getElem?_map] at q
  cases e : δ[i]? with
  | none => rw [e] at q; cases q
  | some o =>
    cases o with
    | none => rw [e] at q; cases q
    | some d0 =>
      rw [e] at q
      have q : some (if d0.old = true then some d0 else none) = some (some d) := q
      by_cases c : d0.old = true
      · rw [if_pos c] at q
        cases q
        obtain ⟨v, h1, h2⟩ := h.2 i d e
        exact ⟨v, h1, Is.spo k d h2 c⟩
      · rw [if_neg c] at q
        cases q
section
variable {pu : Nat → Bool} {wc : WCl} {kf : Nat → Nat} {cl : Nat → List Vl → Sto → R Vl} {spi : Nat} (hc : ∀ n0, Snd ⟨n0, pu, nc⟩ wc kf cl) (hs : ∀ (n0 : Nat) (d : D), d.depth ≤ 30 → SpoOk ⟨n0, pu, nc⟩ cl spi d)
include hc hs
theorem qE (e : E) {δ : PEnv} {ρ : MP.Env} {S : Sto} {n0 b : Nat} {K : PEnds} (h : wqE wc spi e δ K) (en : EnvI ⟨n0, pu, nc⟩ S ρ δ) (p : PuOk ⟨n0, pu, nc⟩ b S) (hb : b + cE kf e ≤ BIG) : OkQ pu n0 b (cE kf e) S (ex cl (.expr e) ρ S) K := by
  have plain : wpE wc e δ (fun _ => K.nx δ) → OkQ pu n0 b (cE kf e) S (ex cl (.expr e) ρ S) K := fun h => OkQ.of (sS (hc n0) (.expr e) h en p hb)
  unfold wqE at h
  split at h
  · rename_i f a
    by_cases c : f = spi
    · rw [if_pos c] at h
      subst c
      have hb : b + (cE kf a + 0 + kf f) ≤ BIG := hb
      obtain ⟨v, S1, d, e1, k1, p1, i1, ⟨q1, q2, q3⟩, q4⟩ := sE (hc n0) a h en p (by omega)
      obtain ⟨S2, e2, k2⟩ := hs n0 d q3 v S1 0 (isX_of d i1 q1) (by omega)
      have e3 : ev cl (.call f (.cons a .nil) []) ρ S = .ok .non S2 := by
        show (((ev cl a ρ S).bind fun v S1 => (R.ok [] S1).bind fun vs S2 => R.ok (v :: vs) S2).bind fun vs S1 => cl f (vs ++ []) S1) = _
        rw [e1]
        exact e2
      show OkQ pu n0 b _ S ((ev cl (.call f (.cons a .nil) []) ρ S).xs ρ fun _ S1 => .fl (.nx ρ) S1) K
      rw [e3]
      refine ⟨⟨Nat.le_trans k1.n (Nat.le_of_eq k2.n.symm), fun i o g hi hp => ?_⟩, n0, Nat.le_refl _, ⟨fun q hq => ?_, by rw [k2.n]; exact p1.2⟩, _, EnvI.spo k2 (en.kp k1), q4⟩
      · rcases k2.obj i o (k1.keep i o g hp) with z | ⟨us, ss, z1, z2, _⟩
        · exact z
        · have z2 : n0 ≤ i := z2
          omega
      · have hcst : cE kf a ≤ cE kf (.call f (.cons a .nil) []) := by
          show cE kf a ≤ cE kf a + 0 + kf f
          omega
        refine (p1.1 q hq).same (by omega) fun ws g1 => ?_
        rcases k2.obj q _ g1 with z | ⟨us, ss, z1, z2, z3, _⟩
        · exact z
        · have z3 : pu q = false := z3
          have hq : pu q = true := hq
          rw [hq] at z3
          cases z3
    · rw [if_neg c] at h
      exact plain h
  · exact plain h
mutual
theorem qS : ∀ (s : Sm) {δ : PEnv} {ρ : MP.Env} {S : Sto} {n0 b : Nat} {K : PEnds}, wqS wc spi s δ K → EnvI ⟨n0, pu, nc⟩ S ρ δ → PuOk ⟨n0, pu, nc⟩ b S → b + cS kf s ≤ BIG → OkQ pu n0 b (cS kf s) S (ex cl s ρ S) K
  | .expr e, δ, ρ, S, n0, b, K, h, en, p, hb => qE hc hs e h en p hb
  | .ite c a d, δ, ρ, S, n0, b, K, h, en, p, hb => by
    have hb : b + (cT kf c + (cSs kf a + cSs kf d)) ≤ BIG := hb
    obtain ⟨t, S1, t', e1, k1, p1, i1, q1⟩ := sT (hc n0) c h en p (by omega)
    subst i1
    show OkQ pu n0 b (cT kf c + (cSs kf a + cSs kf d)) S (match tst cl c ρ S with
      | .ok true S1 => exs cl a ρ S1
      | .ok false S1 => exs cl d ρ S1
      | .exc k v S => .exc k v ρ S
      | .bad => .bad) K
    rw [e1]
    cases t' with
    | true => exact (qSs a q1 (en.kp k1) p1 (by omega)).after (.of k1) (Nat.le_refl _) (by omega)
    | false => exact (qSs d q1 (en.kp k1) p1 (by omega)).after (.of k1) (Nat.le_refl _) (by omega)
  | .bad, δ, ρ, S, n0, b, K, h, en, p, hb => False.elim h
  | .pass, δ, ρ, S, n0, b, K, h, en, p, hb => OkQ.of (sS (hc n0) .pass h en p hb)
  | .asg t e, δ, ρ, S, n0, b, K, h, en, p, hb => OkQ.of (sS (hc n0) (.asg t e) h en p hb)
  | .par i j x y, δ, ρ, S, n0, b, K, h, en, p, hb => OkQ.of (sS (hc n0) (.par i j x y) h en p hb)
  | .ret e, δ, ρ, S, n0, b, K, h, en, p, hb => OkQ.of (sS (hc n0) (.ret e) h en p hb)
  | .retN, δ, ρ, S, n0, b, K, h, en, p, hb => OkQ.of (sS (hc n0) .retN h en p hb)
  | .forr t it c, δ, ρ, S, n0, b, K, h, en, p, hb => OkQ.of (sS (hc n0) (.forr t it c) h en p hb)
  | .whl c d, δ, ρ, S, n0, b, K, h, en, p, hb => OkQ.of (sS (hc n0) (.whl c d) h en p hb)
  | .brk, δ, ρ, S, n0, b, K, h, en, p, hb => OkQ.of (sS (hc n0) .brk h en p hb)
  | .cnt, δ, ρ, S, n0, b, K, h, en, p, hb => OkQ.of (sS (hc n0) .cnt h en p hb)
termination_by structural x => x
theorem qSs : ∀ (s : Ss) {δ : PEnv} {ρ : MP.Env} {S : Sto} {n0 b : Nat} {K : PEnds}, wqSs wc spi s δ K → EnvI ⟨n0, pu, nc⟩ S ρ δ → PuOk ⟨n0, pu, nc⟩ b S → b + cSs kf s ≤ BIG → OkQ pu n0 b (cSs kf s) S (exs cl s ρ S) K
  | .nil, δ, ρ, S, n0, b, K, h, en, p, hb => ⟨⟨Nat.le_refl _, fun _ _ g _ _ => g⟩, n0, Nat.le_refl _, p, δ, en, h⟩
  | .cons s r, δ, ρ, S, n0, b, K, h, en, p, hb => by
    have hb : b + (cS kf s + cSs kf r) ≤ BIG := hb
    have o1 : ∃ n1, n0 ≤ n1 ∧ OkQ pu n1 b (cS kf s) S (ex cl s ρ S) { K with nx := fun δ1 => wqSs wc spi r δ1 K } := by
      rcases h with h | h
      · exact ⟨n0, Nat.le_refl _, qS s h en p (by omega)⟩
      · exact ⟨S.n, p.2, qS s h en.re ⟨p.1, Nat.le_refl _⟩ (by omega)⟩
    obtain ⟨n1, l1, o1⟩ := o1
    show OkQ pu n0 b (cS kf s + cSs kf r) S (match ex cl s ρ S with
      | .fl (.nx ρ1) S1 => exs cl r ρ1 S1
      | x => x) K
    have low : ∀ {S S' : Sto}, KpQ pu n1 S S' → KpQ pu n0 S S' := fun h => ⟨h.n, fun i o g hi hp => h.keep i o g (by omega) hp⟩
    cases q : ex cl s ρ S with
    | bad => rw [q] at o1; exact False.elim o1
    | exc k v ρ3 S3 => rw [q] at o1; exact False.elim o1
    | fl f S1 =>
      rw [q] at o1
      cases f with
      | nx ρ1 =>
        obtain ⟨k1, n2, l2, p1, δ1, en1, q1⟩ := o1
        exact (qSs r q1 en1 p1 (by omega)).after (low k1) (by omega) (by omega)
      | bk ρ1 =>
        obtain ⟨k1, n2, l2, p1, δ1, en1, q1⟩ := o1
        exact ⟨low k1, n2, by omega, p1.mono (by omega), δ1, en1, q1⟩
      | ct ρ1 =>
        obtain ⟨k1, n2, l2, p1, δ1, en1, q1⟩ := o1
        exact ⟨low k1, n2, by omega, p1.mono (by omega), δ1, en1, q1⟩
      | rt v =>
        obtain ⟨k1, n2, l2, p1, d1, en1, q1⟩ := o1
        exact ⟨low k1, n2, by omega, p1.mono (by omega), d1, en1, q1⟩
termination_by structural x => x
end
end
end MP
namespace MP
open PySem
section
variable {cl : Nat → List Vl → Sto → R Vl}
theorem bind_ok {α β : Type} {r : R α} {f : α → Sto → R β} {b : β} {S' : Sto} (h : r.bind f = .ok b S') : ∃ a S1, r = .ok a S1 ∧ f a S1 = .ok b S' := by
  cases r with
  | ok a S1 => exact ⟨a, S1, rfl, h⟩
  | exc k v S1 => cases h
  | bad => cases h
mutual
theorem asn_len : ∀ (t : Tg) {v : Vl} {ρ ρ' : MP.Env} {S S' : Sto}, asn cl t v ρ S = .ok ρ' S' → ρ'.length = ρ.length
  | .name i, v, ρ, ρ', S, S', h => by
    cases h
    exact List.length_set
  | .tup ts, v, ρ, ρ', S, S', h => by
    have h : (match seqOf S v with
      | some vs => if Nat.beq vs.length ts.len then asns cl ts vs ρ S else .bad
      | none => .bad) = .ok ρ' S' := h
    cases q : seqOf S v with
    | none => rw [q] at h; cases h
    | some vs =>
      rw [q] at h
      dsimp only at h
      by_cases c : Nat.beq vs.length ts.len = true
      · rw [if_pos c] at h; exact asns_len ts h
      · rw [if_neg c] at h; cases h
  | .sub o i, v, ρ, ρ', S, S', h => by
    obtain ⟨x, S1, _, h⟩ := bind_ok h
    obtain ⟨y, S2, _, h⟩ := bind_ok h
    obtain ⟨_, S3, _, h⟩ := bind_ok h
    cases h
    rfl
termination_by structural x => x
theorem asns_len : ∀ (t : Tgs) {vs : List Vl} {ρ ρ' : MP.Env} {S S' : Sto}, asns cl t vs ρ S = .ok ρ' S' → ρ'.length = ρ.length
  | .nil, [], ρ, ρ', S, S', h => by cases h; rfl
  | .nil, _ :: _, ρ, ρ', S, S', h => by cases h
  | .cons t r, [], ρ, ρ', S, S', h => by cases h
  | .cons t r, v :: vs, ρ, ρ', S, S', h => by
    obtain ⟨ρ1, S1, h1, h2⟩ := bind_ok h
    rw [asns_len r h2, asn_len t h1]
termination_by structural x => x
end
def LenIs (n : Nat) : XS → Prop
  | .fl (.nx ρ) _ => ρ.length = n
  | .fl (.bk ρ) _ => ρ.length = n
  | .fl (.ct ρ) _ => ρ.length = n
  | _ => True
theorem xs_len {n : Nat} {ρ : MP.Env} {r : R Vl} {f : Vl → Sto → XS} (h : ∀ v S, LenIs n (f v S)) : LenIs n (r.xs ρ f) := by
  cases r with
  | ok v S => exact h v S
  | exc k v S => exact True.intro
  | bad => exact True.intro
theorem forL_len {n : Nat} {as : Vl → MP.Env → Sto → R MP.Env} {bd : MP.Env → Sto → XS} {J : Itr} (ha : ∀ v ρ S ρ' S', as v ρ S = .ok ρ' S' → ρ'.length = ρ.length) (hb : ∀ ρ S, ρ.length = n → LenIs n (bd ρ S)) : ∀ (f i : Nat) (ρ : MP.Env) (S : Sto), ρ.length = n → LenIs n (forLoop as bd J f i ρ S)
  | 0, i, ρ, S, h => True.intro
  | f + 1, i, ρ, S, h => by
    rw [for_eq]
    cases q : next J i S with
    | none => exact True.intro
    | some o => cases o with
      | none => exact h
      | some vS =>
        obtain ⟨v, S1⟩ := vS
        dsimp only
        cases qa : as v ρ S1 with
        | bad => exact True.intro
        | exc k v S2 => exact True.intro
        | ok ρ1 S2 =>
          dsimp only
          have l1 : ρ1.length = n := by rw [ha _ _ _ _ _ qa]; exact h
          have hb1 := hb ρ1 S2 l1
          cases qb : bd ρ1 S2 with
          | bad => exact True.intro
          | exc k v ρ S2 => exact True.intro
          | fl fl S3 =>
            rw [qb] at hb1
            cases fl with
            | nx ρ2 => exact forL_len ha hb f (i + 1) ρ2 S3 hb1
            | ct ρ2 => exact forL_len ha hb f (i + 1) ρ2 S3 hb1
            | bk ρ2 => exact hb1
            | rt v => exact True.intro
theorem whlL_len {n : Nat} {tt : MP.Env → Sto → R Bool} {bd : MP.Env → Sto → XS} (hb : ∀ ρ S, ρ.length = n → LenIs n (bd ρ S)) : ∀ (f : Nat) (ρ : MP.Env) (S : Sto), ρ.length = n → LenIs n (whlLoop tt bd f ρ S)
  | 0, ρ, S, h => True.intro
  | f + 1, ρ, S, h => by
    rw [whl_eq]
    cases q : tt ρ S with
    | bad => exact True.intro
    | exc k v S2 => exact True.intro
    | ok t S1 =>
      cases t with
      | false => exact h
      | true =>
        dsimp only
        have hb1 := hb ρ S1 h
        cases qb : bd ρ S1 with
        | bad => exact True.intro
        | exc k v ρ S2 => exact True.intro
        | fl fl S3 =>
          rw [qb] at hb1
          cases fl with
          | nx ρ2 => exact whlL_len hb f ρ2 S3 hb1
          | ct ρ2 => exact whlL_len hb f ρ2 S3 hb1
          | bk ρ2 => exact hb1
          | rt v => exact True.intro
mutual
theorem ex_len : ∀ (s : Sm) (ρ : MP.Env) (S : Sto), LenIs ρ.length (ex cl s ρ S)
  | .bad, ρ, S => True.intro
  | .pass, ρ, S => rfl
  | .brk, ρ, S => rfl
  | .cnt, ρ, S => rfl
  | .retN, ρ, S => True.intro
  | .expr e, ρ, S => xs_len fun _ _ => rfl
  | .ret e, ρ, S => xs_len fun _ _ => True.intro
  | .asg t e, ρ, S => by
    refine xs_len fun v S1 => ?_
    cases q : asn cl t v ρ S1 with
    | bad => exact True.intro
    | exc k v S2 => exact True.intro
    | ok ρ1 S2 => exact asn_len t q
  | .par i j a b, ρ, S => xs_len fun v S1 => xs_len fun w S2 => by
    show ((ρ.set i (some v)).set j (some w)).length = ρ.length
    rw [List.length_set, List.length_set]
  | .ite c a b, ρ, S => by
    show LenIs ρ.length (match tst cl c ρ S with
      | .ok true S1 => exs cl a ρ S1
      | .ok false S1 => exs cl b ρ S1
      | .exc k v S => .exc k v ρ S
      | .bad => .bad)
    cases tst cl c ρ S with
    | bad => exact True.intro
    | exc k v S2 => exact True.intro
    | ok t S1 => cases t with
      | true => exact exs_len a ρ S1
      | false => exact exs_len b ρ S1
  | .forr t it b, ρ, S => by
    show LenIs ρ.length (match itr cl it ρ S with
      | .ok J S1 => forLoop (fun v ρ' S' => asn cl t v ρ' S') (fun ρ' S' => exs cl b ρ' S') J LF 0 ρ S1
      | .exc k v S => .exc k v ρ S
      | .bad => .bad)
    cases itr cl it ρ S with
    | bad => exact True.intro
    | exc k v S2 => exact True.intro
    | ok J S1 => exact forL_len (fun v ρ S ρ' S' h => asn_len t h) (fun ρ' S' h => by have := exs_len b ρ' S'; rw [h] at this; exact this) LF 0 ρ S1 rfl
  | .whl c b, ρ, S => whlL_len (fun ρ' S' h => by have := exs_len b ρ' S'; rw [h] at this; exact this) LF ρ S rfl
termination_by structural x => x
theorem exs_len : ∀ (s : Ss) (ρ : MP.Env) (S : Sto), LenIs ρ.length (exs cl s ρ S)
  | .nil, ρ, S => rfl
  | .cons s r, ρ, S => by
    have h := ex_len s ρ S
    show LenIs ρ.length (match ex cl s ρ S with
      | .fl (.nx ρ1) S1 => exs cl r ρ1 S1
      | x => x)
    cases q : ex cl s ρ S with
    | bad => exact True.intro
    | exc k v ρ S => exact True.intro
    | fl f S1 =>
      rw [q] at h
      cases f with
      | nx ρ1 =>
        have h2 := exs_len r ρ1 S1
        rw [show ρ1.length = ρ.length from h] at h2
        exact h2
      | bk ρ1 => exact h
      | ct ρ1 => exact h
      | rt v => exact True.intro
termination_by structural x => x
end
end
def lawEnds : PEnds := { nx := fun _ => True, rt := fun d => d = .bl true, bk := fun _ => True, ct := fun _ => True }
def lawB (few pf : Nat) (bb : Ss) : Ss := .cons (.forr (.name 1) (.seq (.call pf (.cons (.var 0) (.cons (.int few) .nil)) [])) bb) (.cons (.ret (.bl true)) .nil)
def lawEnv (nn p : Nat) : PEnv := none :: some (.pur p) :: List.replicate (nn - 2) none
theorem lawEnv_at {nn p i : Nat} {d : D} (h : (lawEnv nn p)[i]? = some (some d)) : i = 1 ∧ d = .pur p := by
  unfold lawEnv at h
  match i, h with
  | 0, h => cases h
  | 1, h => cases h; exact ⟨rfl, rfl⟩
  | i + 2, h =>
    rw [List.getElem?_cons_succ, List.getElem?_cons_succ, List.getElem?_replicate] at h
    split at h <;> cases h
theorem walk_purses {cl : Nat → List Vl → Sto → R Vl} {bb : Ss} {nn L c : Nat} {ps : List Nat} (h2 : 2 ≤ nn)
    (hq : ∀ {p : Nat} {ρ : MP.Env} {S : Sto} {n0 b : Nat}, EnvI ⟨n0, fun i => decide (i ∈ ps), nc⟩ S ρ (lawEnv nn p) → PuOk ⟨n0, fun i => decide (i ∈ ps), nc⟩ b S → b + c ≤ BIG → OkQ (fun i => decide (i ∈ ps)) n0 b c S (exs cl bb ρ S) lawEnds) :
    ∀ (k f i b : Nat) (ρ : MP.Env) (S : Sto), i + k = ps.length → k < f → S.get L = some (.lst (ps.map .ref)) → (∀ p ∈ ps, PurAt b S p) → ρ.length = nn → b + k * c ≤ BIG →
      ∃ S', (∃ ρ', forLoop (fun v ρ' S' => asn cl (.name 1) v ρ' S') (fun ρ' S' => exs cl bb ρ' S') (.lst L) f i ρ S = .fl (.nx ρ') S') ∨ forLoop (fun v ρ' S' => asn cl (.name 1) v ρ' S') (fun ρ' S' => exs cl bb ρ' S') (.lst L) f i ρ S = .fl (.rt (.bl true)) S'
  | 0, f + 1, i, b, ρ, S, hk, hf, hL, hp, hn, hb => by
    have e : next (.lst L) i S = some none := by
      simp only [MP.next, lstAt, hL]
      rw [List.getElem?_eq_none_iff.mpr (by rw [List.length_map]; omega)]
    exact ⟨S, .inl ⟨ρ, by rw [for_eq, e]⟩⟩
  | k + 1, f + 1, i, b, ρ, S, hk, hf, hL, hp, hn, hb => by
    rw [Nat.succ_mul] at hb
    have hlt : i < ps.length := by omega
    have hpi : ps[i]? = some ps[i] := List.getElem?_eq_getElem hlt
    have e : next (.lst L) i S = some (some (.ref ps[i], S)) := by
      simp only [MP.next, lstAt, hL, List.getElem?_map, hpi, Option.map_some]
    have nL : L ∉ ps := fun hm => by
      obtain ⟨a, s, c', e', g, _⟩ := hp L hm
      rw [hL] at g
      cases ps with
      | nil => cases hm
      | cons p r => cases g
    have en : EnvI ⟨S.n, fun i => decide (i ∈ ps), nc⟩ S (ρ.set 1 (some (.ref ps[i]))) (lawEnv nn ps[i]) := by
      refine ⟨?_, fun j d hj => ?_⟩
      · rw [List.length_set, hn]
        unfold lawEnv
        rw [List.length_cons, List.length_cons, List.length_replicate]
        omega
      · obtain ⟨rfl, rfl⟩ := lawEnv_at hj
        refine ⟨.ref ps[i], ?_, rfl, decide_eq_true (List.getElem_mem hlt), rfl⟩
        rw [List.getElem?_set, if_pos rfl, if_pos (by omega)]
    have pk : PuOk ⟨S.n, fun i => decide (i ∈ ps), nc⟩ b S := ⟨fun q hq => hp q (of_decide_eq_true hq), Nat.le_refl _⟩
    have o := hq en pk (by omega)
    have st : forLoop (fun v ρ' S' => asn cl (.name 1) v ρ' S') (fun ρ' S' => exs cl bb ρ' S') (.lst L) (f + 1) i ρ S = match exs cl bb (ρ.set 1 (some (.ref ps[i]))) S with
        | .fl (.nx ρ2) S3 => forLoop (fun v ρ' S' => asn cl (.name 1) v ρ' S') (fun ρ' S' => exs cl bb ρ' S') (.lst L) f (i + 1) ρ2 S3
        | .fl (.ct ρ2) S3 => forLoop (fun v ρ' S' => asn cl (.name 1) v ρ' S') (fun ρ' S' => exs cl bb ρ' S') (.lst L) f (i + 1) ρ2 S3
        | .fl (.bk ρ2) S3 => .fl (.nx ρ2) S3
        | .fl (.rt v) S3 => .fl (.rt v) S3
        | .exc k v ρ S => .exc k v ρ S
        | .bad => .bad := by
      rw [for_eq, e]
      rfl
    rw [st]
    have go : ∀ (ρ2 : MP.Env) (S3 : Sto), ρ2.length = nn → KpQ (fun i => decide (i ∈ ps)) S.n S S3 → (∃ n1, PuOk ⟨n1, fun i => decide (i ∈ ps), nc⟩ (b + c) S3) → _ := fun ρ2 S3 l3 k3 ⟨n1, p3⟩ =>
      walk_purses (L := L) h2 hq k f (i + 1) (b + c) ρ2 S3 (by omega) (by omega) (k3.keep L _ hL (Sto.get_lt hL) (decide_eq_false nL)) (fun p hm => p3.1 p (decide_eq_true hm)) l3 (by omega)
    have hl := exs_len (cl := cl) bb (ρ.set 1 (some (.ref ps[i]))) S
    rw [List.length_set, hn] at hl
    cases qb : exs cl bb (ρ.set 1 (some (.ref ps[i]))) S with
    | bad => rw [qb] at o; exact False.elim o
    | exc k1 v1 ρ1 S1 => rw [qb] at o; exact False.elim o
    | fl fl S3 =>
      rw [qb] at o hl
      cases fl with
      | nx ρ2 => obtain ⟨k3, n1, _, p3, _⟩ := o; exact go ρ2 S3 hl k3 ⟨n1, p3⟩
      | ct ρ2 => obtain ⟨k3, n1, _, p3, _⟩ := o; exact go ρ2 S3 hl k3 ⟨n1, p3⟩
      | bk ρ2 => exact ⟨S3, .inl ⟨ρ2, rfl⟩⟩
      | rt v =>
        obtain ⟨k3, n1, _, p3, d, h1, h2⟩ := o
        have h2 : d = .bl true := h2
        subst h2
        cases (show v = _ from h1)
        exact ⟨S3, .inr rfl⟩
  | _, 0, _, _, _, _, _, hf, _, _, _, _ => absurd hf (Nat.not_lt_zero _)
theorem law_gen {T : List Fn} {wc : WCl} {kf : Nat → Nat} {li pf pg sf few nn dp : Nat} (hw : ∀ C, Snd C wc kf (calls T (dp + 2))) {bb : Ss} (hl : T[li]? = some ⟨1, nn, lawB few pf bb⟩) (hpf : T[pf]? = some ⟨2, 3, pursesB pg⟩) (hpg : T[pg]? = some ⟨2, 3, purseB⟩)
    (hsf : T[sf]? = some ⟨1, 3, spoiltB sf⟩) (h2 : 2 ≤ nn) (hfew : few ≤ 63 ∧ 1 ≤ few) (hcost : few * cSs kf bb ≤ BIG) (hdp : 29 ≤ dp) (hb : ∀ p, wqSs wc sf bb (lawEnv nn p) lawEnds) (ns : List Int) :
    ∃ S, calls T (dp + 3) li [.ref 0] (sto0 ns) = .ok (.bl true) S := by
  have g0 : (sto0 ns).get 0 = some (.rol (ns.map Vl.int)) := by
    unfold sto0
    rw [Sto.get_push]
    rfl
  obtain ⟨ps, S1, e1, e2, e3⟩ := purses_run hpf hpg dp few hfew g0
  have gL : (S1.push (.lst (ps.map .ref))).get S1.n = some (.lst (ps.map .ref)) := by rw [Sto.get_push, if_pos rfl]
  have hq : ∀ {p : Nat} {ρ : MP.Env} {S : Sto} {n0 b : Nat}, EnvI ⟨n0, fun i => decide (i ∈ ps), nc⟩ S ρ (lawEnv nn p) → PuOk ⟨n0, fun i => decide (i ∈ ps), nc⟩ b S → b + cSs kf bb ≤ BIG → OkQ (fun i => decide (i ∈ ps)) n0 b (cSs kf bb) S (exs (calls T (dp + 2)) bb ρ S) lawEnds :=
    fun {p ρ S n0 b} en pk hbb => qSs (fun n0 => hw _) (fun n0 d hd => by
      have := spoilt_ok (C := ⟨n0, fun i => decide (i ∈ ps), nc⟩) hsf 30 d hd (dp + 2 - 31)
      rw [show 30 + 1 + (dp + 2 - 31) = dp + 2 by omega] at this
      exact this) bb (hb p) en pk hbb
  obtain ⟨S2, h⟩ := walk_purses (cl := calls T (dp + 2)) (L := S1.n) h2 hq ps.length LF 0 0 (MP.start nn [.ref 0]) (S1.push (.lst (ps.map .ref))) (by omega) (by unfold LF; omega) gL (fun p hm => (e2 p hm).push _) (by unfold MP.start; rw [List.length_append, List.length_map, List.length_replicate]; simp; omega)
    (by rw [Nat.zero_add]; exact Nat.le_trans (Nat.mul_le_mul_right _ e3) hcost)
  refine ⟨S2, ?_⟩
  rw [show dp + 3 = (dp + 2) + 1 by omega, calls_eq hl _ _ _ rfl]
  have ei : itr (calls T (dp + 2)) (.seq (.call pf (.cons (.var 0) (.cons (.int few) .nil)) [])) (MP.start nn [.ref 0]) (sto0 ns) = .ok (.lst S1.n) (S1.push (.lst (ps.map .ref))) := by
    show (calls T (dp + 2) pf [.ref 0, .int few] (sto0 ns)).bind (fun x S1 => match seqItr S1 x with
      | some J => R.ok J S1
      | none => .bad) = _
    rw [e1]
    show (match seqItr (S1.push (.lst (ps.map .ref))) (.ref S1.n) with
      | some J => R.ok J (S1.push (.lst (ps.map .ref)))
      | none => .bad) = _
    simp only [seqItr, gL]
  have run : exs (calls T (dp + 2)) (lawB few pf bb) (MP.start nn [.ref 0]) (sto0 ns) = .fl (.rt (.bl true)) S2 := by
    unfold lawB
    rcases h with ⟨ρ', h⟩ | h
    · exact (exs_nx ((for_run ei).trans h)).trans (exs_rt rfl)
    · exact exs_rt ((for_run ei).trans h)
  show (match exs (calls T (dp + 2)) (lawB few pf bb) (MP.start nn [.ref 0]) (sto0 ns) with
    | .fl (.nx _) S1 => R.ok Vl.non S1
    | .fl (.rt v) S1 => .ok v S1
    | .exc k v _ S1 => .exc k v S1
    | _ => .bad) = _
  rw [run]
end MP
namespace MP
open PySem
def cont (S : Sto) (i : Nat) : Option (List Vl) := match S.get i with
  | some (.lst vs) => some vs
  | _ => none
/-- the view in which the lists of h are cells -/
def Wc.hide (C : Wc) (h : Nat → Bool) (S : Sto) : Wc := ⟨C.n0, fun i => C.pu i || h i, fun i => if h i = true then cont S i else C.ce i⟩
def LstAt (S : Sto) (h : Nat → Bool) : Prop := ∀ i, h i = true → ∃ vs, S.get i = some (.lst vs)
theorem cont_some {S : Sto} {i : Nat} {vs : List Vl} (g : S.get i = some (.lst vs)) : cont S i = some vs := by
  unfold cont
  rw [g]
theorem LstAt.ce {C : Wc} {S : Sto} {h : Nat → Bool} (l : LstAt S h) {i : Nat} (hi : h i = true) : (C.hide h S).ce i ≠ none := by
  obtain ⟨vs, g⟩ := l i hi
  show (if h i = true then cont S i else C.ce i) ≠ none
  rw [if_pos hi, cont_some g]
  exact fun z => by cases z
theorem pu_hide {C : Wc} {h : Nat → Bool} {S : Sto} {i : Nat} : (C.hide h S).pu i = false ↔ C.pu i = false ∧ h i = false := by
  show (C.pu i || h i) = false ↔ _
  rw [Bool.or_eq_false_iff]
mutual
theorem Is.hide_mono {C : Wc} {h h1 : Nat → Bool} {S0 S1 S : Sto} (l : LstAt S0 h) (hh : ∀ i, h1 i = true → h i = true) : ∀ (d : D) {v : Vl}, Is (C.hide h S0) S d v → Is (C.hide h1 S1) S d v
  | .non, v, k => k
  | .bl b, v, k => k
  | .int b, v, k => k
  | .str b, v, k => k
  | .lst t xs, v, ⟨n, vs, e, g, p, ht, hl⟩ => by
    obtain ⟨p1, p2⟩ := pu_hide.mp p
    exact ⟨n, vs, e, g, pu_hide.mpr ⟨p1, Bool.eq_false_iff.mpr fun z => by rw [hh n z] at p2; cases p2⟩, ht, IsL.hide_mono l hh xs hl⟩
  | .tup xs, v, ⟨n, vs, e, g, p, hl⟩ => by
    obtain ⟨p1, p2⟩ := pu_hide.mp p
    exact ⟨n, vs, e, g, pu_hide.mpr ⟨p1, Bool.eq_false_iff.mpr fun z => by rw [hh n z] at p2; cases p2⟩, IsL.hide_mono l hh xs hl⟩
  | .dct, v, ⟨n, e, g, p⟩ => by
    obtain ⟨p1, p2⟩ := pu_hide.mp p
    exact ⟨n, e, g, pu_hide.mpr ⟨p1, Bool.eq_false_iff.mpr fun z => by rw [hh n z] at p2; cases p2⟩⟩
  | .pur n, v, ⟨e, p, q⟩ => by
    have p : (C.pu n || h n) = true := p
    cases c : h n with
    | true => exact absurd q (l.ce c)
    | false =>
      have q : (if h n = true then cont S0 n else C.ce n) = none := q
      rw [c] at p q
      rw [Bool.or_false] at p
      rw [if_neg (by decide)] at q
      have c1 : h1 n = false := Bool.eq_false_iff.mpr fun z => by rw [hh n z] at c; cases c
      refine ⟨e, ?_, ?_⟩
      · show (C.pu n || h1 n) = true
        rw [p]; rfl
      · show (if h1 n = true then cont S1 n else C.ce n) = none
        rw [c1, if_neg (by decide)]
        exact q
theorem IsL.hide_mono {C : Wc} {h h1 : Nat → Bool} {S0 S1 S : Sto} (l : LstAt S0 h) (hh : ∀ i, h1 i = true → h i = true) : ∀ (ds : List D) {vs : List Vl}, IsL (C.hide h S0) S ds vs → IsL (C.hide h1 S1) S ds vs
  | [], vs, k => k
  | d :: ds, vs, ⟨v, r, e, h2, h3⟩ => ⟨v, r, e, Is.hide_mono l hh d h2, IsL.hide_mono l hh ds h3⟩
end
theorem PuOk.hide {C : Wc} {h : Nat → Bool} {S : Sto} {b : Nat} (p : PuOk C b S) (l : LstAt S h) : PuOk (C.hide h S) b S := by
  refine ⟨fun i hi => ?_, p.2⟩
  unfold PuAt
  cases c : h i with
  | true =>
    obtain ⟨vs, g⟩ := l i c
    have e : (C.hide h S).ce i = some vs := by
      show (if h i = true then cont S i else C.ce i) = some vs
      rw [if_pos c, cont_some g]
    rw [e]
    exact g
  | false =>
    have e : (C.hide h S).ce i = C.ce i := by
      show (if h i = true then cont S i else C.ce i) = C.ce i
      rw [c, if_neg (by decide)]
    have hi : (C.pu i || h i) = true := hi
    rw [c, Bool.or_false] at hi
    rw [e]
    exact p.1 i hi
/-- from a view back: cells are apart from what C holds by itself -/
theorem PuOk.unhide {C : Wc} {h : Nat → Bool} {S S1 : Sto} {b : Nat} (a : ∀ i, h i = true → C.pu i = false) (p : PuOk (C.hide h S) b S1) : PuOk C b S1 := by
  refine ⟨fun i hi => ?_, p.2⟩
  have c : h i = false := Bool.eq_false_iff.mpr fun z => by rw [a i z] at hi; cases hi
  have q := p.1 i (by show (C.pu i || h i) = true; rw [hi]; rfl)
  unfold PuAt at q ⊢
  have e : (C.hide h S).ce i = C.ce i := by
    show (if h i = true then cont S i else C.ce i) = C.ce i
    rw [c, if_neg (by decide)]
  rw [e] at q
  exact q
theorem PuOk.cells {C : Wc} {h : Nat → Bool} {S S1 : Sto} {b : Nat} (l : LstAt S h) (p : PuOk (C.hide h S) b S1) {i : Nat} (hi : h i = true) : S1.get i = S.get i := by
  obtain ⟨vs, g⟩ := l i hi
  have q := p.1 i (by show (C.pu i || h i) = true; rw [hi, Bool.or_true])
  have e : (C.hide h S).ce i = some vs := by
    show (if h i = true then cont S i else C.ce i) = some vs
    rw [if_pos hi, cont_some g]
  rw [q.cell e, g]
/-- a run under fewer cells keeps more cells too -/
theorem Kp.more {C : Wc} {h h1 : Nat → Bool} {S S1 : Sto} {b : Nat} (a : ∀ i, h i = true → C.pu i = false) (hh : ∀ i, h1 i = true → h i = true) (l : LstAt S h) (k : Kp (C.hide h1 S) S S1) (p : PuOk (C.hide h1 S) b S1) :
    Kp (C.hide h S) S S1 ∧ (∀ i, h i = true → S1.get i = S.get i) ∧ LstAt S1 h := by
  have cells : ∀ i, h i = true → S1.get i = S.get i := fun i hi => by
    cases c : h1 i with
    | true => exact PuOk.cells (fun i hi => l i (hh i hi)) p c
    | false =>
      obtain ⟨vs, g⟩ := l i hi
      rw [k.keep i _ g (pu_hide.mpr ⟨a i hi, c⟩), g]
  refine ⟨⟨k.n, fun i o g hp => ?_⟩, cells, fun i hi => ?_⟩
  · obtain ⟨p1, p2⟩ := pu_hide.mp hp
    exact k.keep i o g (pu_hide.mpr ⟨p1, Bool.eq_false_iff.mpr fun z => by rw [hh i z] at p2; cases p2⟩)
  · rw [cells i hi]
    exact l i hi
theorem Kp.setCell {C : Wc} {h : Nat → Bool} {S0 S : Sto} {n : Nat} {o : Ob} (hn : h n = true) : Kp (C.hide h S0) S (S.set n o) := by
  refine ⟨Nat.le_of_eq (Sto.n_set ..).symm, fun i u g hp => ?_⟩
  obtain ⟨p1, p2⟩ := pu_hide.mp hp
  rw [Sto.get_set, if_neg (fun z => by rw [← z.1, hn] at p2; cases p2)]
  exact g
end MP
namespace MP
open PySem
mutual
theorem Is.fn {C : Wc} {S : Sto} : ∀ (d e : D) {v : Vl}, Is C S d v → Is C S e v → d = e
  | .non, e, v, h, k => by
    cases (show v = _ from h)
    cases e <;> first | rfl | (cases (show Vl.non = _ from k); done) | (obtain ⟨_, _, z, _⟩ := k; cases z; done) | (obtain ⟨_, z, _⟩ := k; cases z; done) | (obtain ⟨z, _⟩ := k; cases z; done)
  | .bl b, e, v, h, k => by
    cases (show v = _ from h)
    cases e <;> first | (cases (show Vl.bl b = _ from k); first | rfl | done) | (obtain ⟨_, _, z, _⟩ := k; cases z; done) | (obtain ⟨_, z, _⟩ := k; cases z; done) | (obtain ⟨z, _⟩ := k; cases z; done)
  | .int b, e, v, h, k => by
    cases (show v = _ from h)
    cases e <;> first | (cases (show Vl.int b = _ from k); first | rfl | done) | (obtain ⟨_, _, z, _⟩ := k; cases z; done) | (obtain ⟨_, z, _⟩ := k; cases z; done) | (obtain ⟨z, _⟩ := k; cases z; done)
  | .str b, e, v, h, k => by
    cases (show v = _ from h)
    cases e <;> first | (cases (show Vl.str b = _ from k); first | rfl | done) | (obtain ⟨_, _, z, _⟩ := k; cases z; done) | (obtain ⟨_, z, _⟩ := k; cases z; done) | (obtain ⟨z, _⟩ := k; cases z; done)
  | .lst t xs, e, v, ⟨n, vs, ev, g, p, ht, hl⟩, k => by
    subst ev
    cases e with
    | lst t' ys =>
      obtain ⟨m, ws, e2, g2, _, ht2, hl2⟩ := k
      cases e2
      rw [g] at g2
      cases g2
      rw [ht, ht2, IsL.fn xs ys hl hl2]
    | tup ys => obtain ⟨m, ws, e2, g2, _⟩ := k; cases e2; rw [g] at g2; cases g2
    | dct => obtain ⟨m, e2, g2, _⟩ := k; cases e2; rw [g] at g2; cases g2
    | pur m => obtain ⟨e2, p2, _⟩ := k; cases e2; rw [p] at p2; cases p2
    | _ => cases (show Vl.ref n = _ from k)
  | .tup xs, e, v, ⟨n, vs, ev, g, p, hl⟩, k => by
    subst ev
    cases e with
    | lst t' ys => obtain ⟨m, ws, e2, g2, _⟩ := k; cases e2; rw [g] at g2; cases g2
    | tup ys =>
      obtain ⟨m, ws, e2, g2, _, hl2⟩ := k
      cases e2
      rw [g] at g2
      cases g2
      rw [IsL.fn xs ys hl hl2]
    | dct => obtain ⟨m, e2, g2, _⟩ := k; cases e2; rw [g] at g2; cases g2
    | pur m => obtain ⟨e2, p2, _⟩ := k; cases e2; rw [p] at p2; cases p2
    | _ => cases (show Vl.ref n = _ from k)
  | .dct, e, v, ⟨n, ev, g, p⟩, k => by
    subst ev
    cases e with
    | lst t' ys => obtain ⟨m, ws, e2, g2, _⟩ := k; cases e2; rw [g] at g2; cases g2
    | tup ys => obtain ⟨m, ws, e2, g2, _⟩ := k; cases e2; rw [g] at g2; cases g2
    | dct => rfl
    | pur m => obtain ⟨e2, p2, _⟩ := k; cases e2; rw [p] at p2; cases p2
    | _ => cases (show Vl.ref n = _ from k)
  | .pur n, e, v, ⟨ev, p, q⟩, k => by
    subst ev
    cases e with
    | lst t' ys => obtain ⟨m, ws, e2, g2, p2, _⟩ := k; cases e2; rw [p] at p2; cases p2
    | tup ys => obtain ⟨m, ws, e2, g2, p2, _⟩ := k; cases e2; rw [p] at p2; cases p2
    | dct => obtain ⟨m, e2, g2, p2⟩ := k; cases e2; rw [p] at p2; cases p2
    | pur m => obtain ⟨e2, p2, _⟩ := k; cases e2; rfl
    | _ => cases (show Vl.ref n = _ from k)
theorem IsL.fn {C : Wc} {S : Sto} : ∀ (d e : List D) {v : List Vl}, IsL C S d v → IsL C S e v → d = e
  | [], [], v, h, k => rfl
  | [], e :: es, v, h, k => by
    cases (show v = [] from h)
    obtain ⟨_, _, z, _⟩ := k
    cases z
  | d :: ds, [], v, h, k => by
    cases (show v = [] from k)
    obtain ⟨_, _, z, _⟩ := h
    cases z
  | d :: ds, e :: es, v, ⟨v1, r1, e1, h1, h2⟩, k => by
    subst e1
    obtain ⟨v2, r2, e2, k1, k2⟩ := k
    cases e2
    rw [Is.fn d e h1 k1, IsL.fn ds es h2 k2]
end
mutual
def D.sz : D → Nat
  | .lst _ xs => D.szL xs + 1
  | .tup xs => D.szL xs + 1
  | _ => 0
def D.szL : List D → Nat
  | [] => 0
  | d :: ds => d.sz + D.szL ds + 1
end
/-- the same view, with the cell n too: what is not n and does not hold n -/
def orN (h : Nat → Bool) (n : Nat) : Nat → Bool := fun i => h i || i == n
mutual
theorem Is.addLt {C : Wc} {h : Nat → Bool} {n : Nat} {S0 S1 S S' : Sto} (l : LstAt S0 h) (hn : S'.n ≤ n) (k : Kp (C.hide h S0) S' S) (z : (C.hide h S0).pu n = false) : ∀ (d : D) {v : Vl}, Is (C.hide h S0) S' d v → Is (C.hide (orN h n) S1) S d v
  | .non, v, k => k
  | .bl b, v, k => k
  | .int b, v, k => k
  | .str b, v, k => k
  | .lst t xs, v, ⟨m, vs, e, g, p, ht, hl⟩ => by
    obtain ⟨p1, p2⟩ := pu_hide.mp p
    have : m < S'.n := Sto.get_lt g
    refine ⟨m, vs, e, k.keep m _ g p, pu_hide.mpr ⟨p1, ?_⟩, ht, IsL.addLt l hn k z xs hl⟩
    unfold orN
    rw [p2, Bool.false_or, beq_eq_false_iff_ne]
    omega
  | .tup xs, v, ⟨m, vs, e, g, p, hl⟩ => by
    obtain ⟨p1, p2⟩ := pu_hide.mp p
    have : m < S'.n := Sto.get_lt g
    refine ⟨m, vs, e, k.keep m _ g p, pu_hide.mpr ⟨p1, ?_⟩, IsL.addLt l hn k z xs hl⟩
    unfold orN
    rw [p2, Bool.false_or, beq_eq_false_iff_ne]
    omega
  | .dct, v, ⟨m, e, g, p⟩ => by
    obtain ⟨p1, p2⟩ := pu_hide.mp p
    have : m < S'.n := Sto.get_lt g
    refine ⟨m, e, k.keep m _ g p, pu_hide.mpr ⟨p1, ?_⟩⟩
    unfold orN
    rw [p2, Bool.false_or, beq_eq_false_iff_ne]
    omega
  | .pur m, v, ⟨e, p, q⟩ => by
    have p' : (C.pu m || h m) = true := p
    cases c : h m with
    | true => exact absurd q (l.ce c)
    | false =>
      have q : (if h m = true then cont S0 m else C.ce m) = none := q
      rw [c] at p' q
      rw [Bool.or_false] at p'
      rw [if_neg (by decide)] at q
      have mn : m ≠ n := fun y => by rw [← y, p] at z; cases z
      have c1 : orN h n m = false := by
        unfold orN
        rw [c, Bool.false_or, beq_eq_false_iff_ne]
        exact mn
      refine ⟨e, ?_, ?_⟩
      · show (C.pu m || orN h n m) = true
        rw [p']; rfl
      · show (if orN h n m = true then cont S1 m else C.ce m) = none
        rw [c1, if_neg (by decide)]
        exact q
theorem IsL.addLt {C : Wc} {h : Nat → Bool} {n : Nat} {S0 S1 S S' : Sto} (l : LstAt S0 h) (hn : S'.n ≤ n) (k : Kp (C.hide h S0) S' S) (z : (C.hide h S0).pu n = false) : ∀ (ds : List D) {vs : List Vl}, IsL (C.hide h S0) S' ds vs → IsL (C.hide (orN h n) S1) S ds vs
  | [], vs, k => k
  | d :: ds, vs, ⟨v, r, e, h2, h3⟩ => ⟨v, r, e, Is.addLt l hn k z d h2, IsL.addLt l hn k z ds h3⟩
end
mutual
theorem Is.addSz {C : Wc} {h : Nat → Bool} {n : Nat} {S0 S1 S : Sto} {D0 : D} (l : LstAt S0 h) (i0 : Is (C.hide h S0) S D0 (.ref n)) (z : (C.hide h S0).pu n = false) : ∀ (d : D) {v : Vl}, d.sz < D0.sz → Is (C.hide h S0) S d v → Is (C.hide (orN h n) S1) S d v
  | .non, v, _, k => k
  | .bl b, v, _, k => k
  | .int b, v, _, k => k
  | .str b, v, _, k => k
  | .lst t xs, v, hs, ⟨m, vs, e, g, p, ht, hl⟩ => by
    obtain ⟨p1, p2⟩ := pu_hide.mp p
    have hs : D.szL xs + 1 < D0.sz := hs
    have mn : m ≠ n := fun y => by
      subst y
      have := Is.fn D0 (.lst t xs) i0 ⟨m, vs, rfl, g, p, ht, hl⟩
      rw [this] at hs
      exact absurd hs (Nat.lt_irrefl (D.szL xs + 1))
    refine ⟨m, vs, e, g, pu_hide.mpr ⟨p1, ?_⟩, ht, IsL.addSz l i0 z xs (by omega) hl⟩
    unfold orN
    rw [p2, Bool.false_or, beq_eq_false_iff_ne]
    exact mn
  | .tup xs, v, hs, ⟨m, vs, e, g, p, hl⟩ => by
    obtain ⟨p1, p2⟩ := pu_hide.mp p
    have hs : D.szL xs + 1 < D0.sz := hs
    have mn : m ≠ n := fun y => by
      subst y
      have := Is.fn D0 (.tup xs) i0 ⟨m, vs, rfl, g, p, hl⟩
      rw [this] at hs
      exact absurd hs (Nat.lt_irrefl (D.szL xs + 1))
    refine ⟨m, vs, e, g, pu_hide.mpr ⟨p1, ?_⟩, IsL.addSz l i0 z xs (by omega) hl⟩
    unfold orN
    rw [p2, Bool.false_or, beq_eq_false_iff_ne]
    exact mn
  | .dct, v, hs, ⟨m, e, g, p⟩ => by
    obtain ⟨p1, p2⟩ := pu_hide.mp p
    have mn : m ≠ n := fun y => by
      subst y
      have := Is.fn D0 .dct i0 ⟨m, rfl, g, p⟩
      rw [this] at hs
      exact absurd hs (Nat.lt_irrefl _)
    refine ⟨m, e, g, pu_hide.mpr ⟨p1, ?_⟩⟩
    unfold orN
    rw [p2, Bool.false_or, beq_eq_false_iff_ne]
    exact mn
  | .pur m, v, hs, ⟨e, p, q⟩ => by
    have p' : (C.pu m || h m) = true := p
    cases c : h m with
    | true => exact absurd q (l.ce c)
    | false =>
      have q : (if h m = true then cont S0 m else C.ce m) = none := q
      rw [c] at p' q
      rw [Bool.or_false] at p'
      rw [if_neg (by decide)] at q
      have mn : m ≠ n := fun y => by rw [← y, p] at z; cases z
      have c1 : orN h n m = false := by
        unfold orN
        rw [c, Bool.false_or, beq_eq_false_iff_ne]
        exact mn
      refine ⟨e, ?_, ?_⟩
      · show (C.pu m || orN h n m) = true
        rw [p']; rfl
      · show (if orN h n m = true then cont S1 m else C.ce m) = none
        rw [c1, if_neg (by decide)]
        exact q
theorem IsL.addSz {C : Wc} {h : Nat → Bool} {n : Nat} {S0 S1 S : Sto} {D0 : D} (l : LstAt S0 h) (i0 : Is (C.hide h S0) S D0 (.ref n)) (z : (C.hide h S0).pu n = false) : ∀ (ds : List D) {vs : List Vl}, D.szL ds < D0.sz → IsL (C.hide h S0) S ds vs → IsL (C.hide (orN h n) S1) S ds vs
  | [], vs, _, k => k
  | d :: ds, vs, hs, ⟨v, r, e, h2, h3⟩ => by
    have hs : d.sz + D.szL ds + 1 < D0.sz := hs
    exact ⟨v, r, e, Is.addSz l i0 z d (by omega) h2, IsL.addSz l i0 z ds (by omega) h3⟩
end
end MP
namespace MP
open PySem
/-- a run whose list, if it gives one, is new -/
def New (N : Nat) (r : R Vl) : Prop := ∀ v S', r = .ok v S' → ∀ n, v = .ref n → N ≤ n
theorem New.bad {N : Nat} : New N .bad := fun _ _ e => by cases e
theorem New.sc {N : Nat} {w : Vl} {S : Sto} (h : ∀ n, w ≠ .ref n) : New N (.ok w S) := fun v S' e n z => by
  cases e
  exact absurd z (h n)
theorem New.push {N : Nat} {S : Sto} {o : Ob} (h : N ≤ S.n) : New N (.ok (.ref S.n) (S.push o)) := fun v S' e n z => by
  cases e
  cases z
  exact h
theorem New.newL {N : Nat} {S : Sto} {xs : List Vl} (h : N ≤ S.n) : New N (MP.newL xs S) := by
  unfold MP.newL
  split
  · exact New.push h
  · exact New.bad
theorem New.newT {N : Nat} {S : Sto} {xs : List Vl} (h : N ≤ S.n) : New N (MP.newT xs S) := by
  unfold MP.newT
  split
  · exact New.push h
  · exact New.bad
theorem bin_new {N : Nat} {S : Sto} {u v : Vl} (o : Op2) (h : N ≤ S.n) : New N (binS o u v S) := by
  have sc : ∀ {w : Vl}, (∀ k, w ≠ .ref k) → New N (.ok w S) := fun hw => New.sc hw
  cases o <;> cases u <;> cases v <;> simp only [binS] <;> first | exact New.bad | exact sc (fun _ z => nomatch z) | (split <;> first | exact New.bad | exact sc (fun _ z => nomatch z)) | skip
  · split
    · exact New.newL h
    · exact New.newT h
    · exact New.bad
  · split
    · split
      · exact New.push h
      · exact New.bad
    · exact New.bad
theorem cut_new {N : Nat} {S : Sto} {u : Vl} (lo hi : Option Int) (h : N ≤ S.n) : New N (cutS u lo hi S) := by
  cases u <;> simp only [cutS] <;> first | exact New.bad | skip
  split
  · exact New.push h
  · exact New.push h
  · exact New.bad
theorem list_new {N : Nat} {S : Sto} {u : Vl} (h : N ≤ S.n) : New N (biS .list [u] S) := by
  simp only [biS]
  split
  · exact New.push h
  · exact New.bad
theorem sorted_new {N : Nat} {S : Sto} {u : Vl} (h : N ≤ S.n) : New N (biS .sorted [u] S) := by
  simp only [biS]
  split
  · exact New.push h
  · exact New.bad
def freshE : E → Bool
  | .lst _ => true
  | .lc _ _ _ _ _ => true
  | .bi .list (.cons _ .nil) => true
  | .bi .sorted (.cons _ .nil) => true
  | .cut _ _ _ => true
  | .bin _ _ _ => true
  | .lrg _ => true
  | _ => false
section
variable {C : Wc} {wc : WCl} {kf : Nat → Nat} {cl : Nat → List Vl → Sto → R Vl} (hc : Snd C wc kf cl)
include hc
theorem fresh_ok : ∀ (e : E) {δ : PEnv} {ρ : MP.Env} {S : Sto} {b : Nat} {Q : D → Prop}, freshE e = true → wpE wc e δ Q → EnvI C S ρ δ → PuOk C b S → b + cE kf e ≤ BIG → New S.n (ev cl e ρ S)
  | .lst es, δ, ρ, S, b, Q, f, h, en, p, hb => by
    have hb : b + cA kf es ≤ BIG := hb
    obtain ⟨vs, S1, d, e1, k1, p1, i1, q1⟩ := sA hc es h en p hb
    show New S.n ((evs cl es ρ S).bind fun vs S1 => newL vs S1)
    rw [e1]
    exact New.newL k1.n
  | .lrg es, δ, ρ, S, b, Q, f, h, en, p, hb => by
    have hb : b + cA kf es ≤ BIG := hb
    obtain ⟨vs, S1, d, e1, k1, p1, i1, q1⟩ := sA hc es h en p hb
    show New S.n ((evs cl es ρ S).bind fun vs S1 => match rngOf vs with
      | some (lo, n) => if Nat.ble n lineN then .ok (.ref S1.n) (S1.push (.lst ((List.range n).map fun i => .int (lo + (i : Nat))))) else .bad
      | none => .bad)
    rw [e1]
    show New S.n (match rngOf vs with
      | some (lo, n) => if Nat.ble n lineN then .ok (.ref S1.n) (S1.push (.lst ((List.range n).map fun i => .int (lo + (i : Nat))))) else .bad
      | none => .bad)
    split
    · split
      · exact New.push k1.n
      · exact New.bad
    · exact New.bad
  | .bi .list (.cons a .nil), δ, ρ, S, b, Q, f, h, en, p, hb => by
    have hb : b + cA kf (.cons a .nil) ≤ BIG := hb
    obtain ⟨vs, S1, d, e1, k1, p1, i1, q1⟩ := sA hc (.cons a .nil) h en p hb
    show New S.n ((evs cl (.cons a .nil) ρ S).bind fun vs S1 => biS .list vs S1)
    rw [e1]
    show New S.n (biS .list vs S1)
    match vs with
    | [u] => exact list_new k1.n
    | [] => exact New.bad
    | _ :: _ :: _ => exact New.bad
  | .bi .sorted (.cons a .nil), δ, ρ, S, b, Q, f, h, en, p, hb => by
    have hb : b + cA kf (.cons a .nil) ≤ BIG := hb
    obtain ⟨vs, S1, d, e1, k1, p1, i1, q1⟩ := sA hc (.cons a .nil) h en p hb
    show New S.n ((evs cl (.cons a .nil) ρ S).bind fun vs S1 => biS .sorted vs S1)
    rw [e1]
    show New S.n (biS .sorted vs S1)
    match vs with
    | [u] => exact sorted_new k1.n
    | [] => exact New.bad
    | _ :: _ :: _ => exact New.bad
  | .bin o a c, δ, ρ, S, b, Q, f, h, en, p, hb => by
    have hb : b + (cE kf a + cE kf c) ≤ BIG := hb
    obtain ⟨u, S1, x, e1, k1, p1, i1, q1⟩ := sE hc a h en p (by omega)
    obtain ⟨v, S2, y, e2, k2, p2, i2, q2⟩ := sE hc c q1 (en.kp k1) p1 (by omega)
    show New S.n ((ev cl a ρ S).bind fun x S1 => (ev cl c ρ S1).bind fun y S2 => binS o x y S2)
    rw [e1]
    show New S.n ((ev cl c ρ S1).bind fun y S2 => binS o u y S2)
    rw [e2]
    exact bin_new o (Nat.le_trans k1.n k2.n)
  | .cut a lo hi, δ, ρ, S, b, Q, f, h, en, p, hb => by
    have hb : b + (cE kf a + (cE kf lo + cE kf hi)) ≤ BIG := hb
    obtain ⟨u, S1, x, e1, k1, p1, i1, q1⟩ := sE hc a h en p (by omega)
    obtain ⟨l, S2, y, e2, k2, p2, i2, q2⟩ := part_ok hc (by omega) (fun h => sE hc lo h (en.kp k1) p1 (by omega)) p1 q1
    obtain ⟨l3, S3, y3, e3, k3, p3, i3, q3⟩ := part_ok hc (by omega) (fun h => sE hc hi h (en.kp (k1.trans k2)) p2 (by omega)) p2 q2
    show New S.n ((ev cl a ρ S).bind fun x S1 => (partR (isBad lo) S1 (ev cl lo ρ S1)).bind fun l S2 => (partR (isBad hi) S2 (ev cl hi ρ S2)).bind fun h S3 => cutS x l h S3)
    rw [e1]
    show New S.n ((partR (isBad lo) S1 (ev cl lo ρ S1)).bind fun l S2 => (partR (isBad hi) S2 (ev cl hi ρ S2)).bind fun h S3 => cutS u l h S3)
    rw [e2]
    show New S.n ((partR (isBad hi) S2 (ev cl hi ρ S2)).bind fun h S3 => cutS u l h S3)
    rw [e3]
    exact cut_new _ _ (Nat.le_trans (Nat.le_trans k1.n k2.n) k3.n)
  | .lc own tg it ifs elt, δ, ρ, S, b, Q, f, h, en, p, hb => by
    have hb : b + (cI kf it + LF * (cG kf tg + (cT kf ifs + cE kf elt))) ≤ BIG := hb
    obtain ⟨J, S1, xs, e1, k1, p1, i1, hl, q⟩ := sI hc it h en p (by omega)
    have en1 := (en.kp k1).wipe own
    obtain ⟨v, S2, d, e2, k2, p2, ⟨i2, n2⟩, q2⟩ := lc_ok i1 (fun {x v S b K} kk w ix pp bb => sG hc tg w (en1.kp kk) ix pp bb) (fun {δ' ρ' S b K} w e pp bb => sT hc ifs w e pp bb) (fun {δ' ρ' S b K} w e pp bb => sE hc elt w e pp bb) LF 0 xs [] [] S1 _ hl (fun j => by rw [Nat.zero_add]) q Kp.refl rfl p1 (by omega)
    show New S.n ((itr cl it ρ S).bind fun J S1 => lcLoop (fun v S' => asn cl tg v (MP.wipe ρ own) S') (fun ρ' S' => tst cl ifs ρ' S') (fun ρ' S' => ev cl elt ρ' S') J LF 0 [] S1)
    rw [e1]
    show New S.n (lcLoop (fun v S' => asn cl tg v (MP.wipe ρ own) S') (fun ρ' S' => tst cl ifs ρ' S') (fun ρ' S' => ev cl elt ρ' S') J LF 0 [] S1)
    rw [e2]
    intro w S' e n hn
    cases e
    exact Nat.le_trans k1.n (n2 n hn)
end
def freshA : Es → Bool
  | .nil => true
  | .cons e r => freshE e && freshA r
/-- a new list of new lists -/
def deepE : E → Bool
  | .lst es => freshA es
  | .lc _ _ _ _ elt => freshE elt
  | _ => false
def IncF (N M : Nat) : List Vl → Prop
  | [] => N ≤ M
  | v :: r => ∃ M', (∀ n, v = .ref n → N ≤ n ∧ n < M') ∧ N ≤ M' ∧ IncF M' M r
theorem IncF.le : ∀ {l : List Vl} {N M : Nat}, IncF N M l → N ≤ M
  | [], N, M, h => h
  | _ :: _, N, M, ⟨M', _, h1, h2⟩ => Nat.le_trans h1 h2.le
theorem IncF.mono : ∀ {l : List Vl} {N M M2 : Nat}, IncF N M l → M ≤ M2 → IncF N M2 l
  | [], N, M, M2, h, l => Nat.le_trans h l
  | _ :: _, N, M, M2, ⟨M', h0, h1, h2⟩, l => ⟨M', h0, h1, h2.mono l⟩
theorem IncF.snoc : ∀ {l : List Vl} {N M M2 : Nat} {y : Vl}, IncF N M l → (∀ n, y = .ref n → M ≤ n ∧ n < M2) → M ≤ M2 → IncF N M2 (l ++ [y])
  | [], N, M, M2, y, h, hy, hl => ⟨M2, fun n e => ⟨Nat.le_trans h (hy n e).1, (hy n e).2⟩, Nat.le_trans h hl, Nat.le_refl _⟩
  | _ :: _, N, M, M2, y, ⟨M', h0, h1, h2⟩, hy, hl => ⟨M', h0, h1, h2.snoc hy hl⟩
theorem IncF.refs : ∀ {ns : List Nat} {N M : Nat}, IncF N M (ns.map Vl.ref) → ns.Nodup ∧ ∀ i ∈ ns, N ≤ i ∧ i < M
  | [], N, M, h => ⟨List.nodup_nil, fun i hi => (List.not_mem_nil hi).elim⟩
  | a :: ns, N, M, ⟨M', h0, h1, h2⟩ => by
    obtain ⟨q1, q2⟩ := IncF.refs h2
    obtain ⟨z1, z2⟩ := h0 a rfl
    have := h2.le
    refine ⟨List.nodup_cons.mpr ⟨fun z => by have := (q2 a z).1; omega, q1⟩, fun i hi => ?_⟩
    rcases List.mem_cons.mp hi with e | hi
    · subst e; omega
    · have := q2 i hi
      omega
theorem Is.lt {C : Wc} {S : Sto} {b : Nat} (p : PuOk C b S) : ∀ {d : D} {n : Nat}, Is C S d (.ref n) → n < S.n
  | .non, n, h => by cases (show Vl.ref n = _ from h)
  | .bl _, n, h => by cases (show Vl.ref n = _ from h)
  | .int _, n, h => by cases (show Vl.ref n = _ from h)
  | .str _, n, h => by cases (show Vl.ref n = _ from h)
  | .lst _ _, n, ⟨m, vs, e, g, _⟩ => by cases e; exact Sto.get_lt g
  | .tup _, n, ⟨m, vs, e, g, _⟩ => by cases e; exact Sto.get_lt g
  | .dct, n, ⟨m, e, g, _⟩ => by cases e; exact Sto.get_lt g
  | .pur m, n, ⟨e, q, _⟩ => by
    cases e
    obtain ⟨vs, g⟩ := (p.1 _ q).get
    exact Sto.get_lt g
theorem lc_inc {C : Wc} {as : D → (PEnv → Prop) → Prop} {tt : PEnv → (Bool → Prop) → Prop} {el : PEnv → (D → Prop) → Prop} {as' : Vl → Sto → R MP.Env} {tt' : MP.Env → Sto → R Bool} {el' : MP.Env → Sto → R Vl} {S0 : Sto} {J : Itr} {all : List D} {ka kt ke N : Nat} {Q : D → Prop}
    (hJ : ItI C S0 all J)
    (ha : ∀ {x : D} {v : Vl} {S : Sto} {b : Nat} {K : PEnv → Prop}, Kp C S0 S → as x K → Is C S x v → PuOk C b S → b + ka ≤ BIG → Ok C b ka S (as' v S) (fun S' δ ρ => EnvI C S' ρ δ) K)
    (ht : ∀ {δ : PEnv} {ρ : MP.Env} {S : Sto} {b : Nat} {K : Bool → Prop}, tt δ K → EnvI C S ρ δ → PuOk C b S → b + kt ≤ BIG → Ok C b kt S (tt' ρ S) (fun _ d v => d = v) K)
    (he : ∀ {δ : PEnv} {ρ : MP.Env} {S : Sto} {b : Nat} {K : D → Prop}, el δ K → EnvI C S ρ δ → PuOk C b S → b + ke ≤ BIG → Ok C b ke S (el' ρ S) (Is C) K)
    (hn : ∀ {δ : PEnv} {ρ : MP.Env} {S : Sto} {b : Nat} {K : D → Prop}, el δ K → EnvI C S ρ δ → PuOk C b S → b + ke ≤ BIG → New S.n (el' ρ S)) :
    ∀ (m i : Nat) (xs acc : List D) (vacc : List Vl) (S : Sto) (b : Nat), xs.length < m → (∀ j, all[i + j]? = xs[j]?) → wLc as tt el xs acc Q → Kp C S0 S → IncF N S.n vacc.reverse → PuOk C b S → b + m * (ka + (kt + ke)) ≤ BIG →
      ∀ v S', lcLoop as' tt' el' J m i vacc S = .ok v S' → ∃ n vs, v = .ref n ∧ S'.get n = some (.lst vs) ∧ IncF N n vs
  | 0, i, xs, acc, vacc, S, b, hm, hx, w, kp, ia, p, hb => absurd hm (Nat.not_lt_zero _)
  | m + 1, i, [], acc, vacc, S, b, hm, hx, w, kp, ia, p, hb => by
    rw [lc_eq, (hJ C S b i (.of kp) p).1 (by have := hx 0; simpa using this)]
    dsimp only
    intro v S' e
    unfold MP.newL at e
    split at e
    · cases e
      exact ⟨S.n, vacc.reverse, rfl, by rw [Sto.get_push, if_pos rfl], ia⟩
    · cases e
  | m + 1, i, x :: xs, acc, vacc, S, b, hm, hx, w, kp, ia, p, hb => by
    obtain ⟨v, S1, h1, k1, p1, i1⟩ := (hJ C S b i (.of kp) p).2 x (by have := hx 0; simpa using this)
    rw [Nat.succ_mul] at hb
    have hw : as x fun δ => tt δ fun b => match b with
      | true => el δ fun y => wLc as tt el xs (y :: acc) Q
      | false => wLc as tt el xs acc Q := w
    obtain ⟨ρ, S2, δ, e2, k2, p2, en2, q2⟩ := ha (kp.trans k1) hw i1 p1 (by omega)
    obtain ⟨t, S3, t', e3, k3, p3, rt, q3⟩ := ht q2 en2 p2 (by omega)
    subst rt
    have kp3 := ((kp.trans k1).trans k2).trans k3
    have nx : ∀ j, all[i + 1 + j]? = xs[j]? := fun j => by
      have := hx (j + 1)
      rw [List.getElem?_cons_succ] at this
      rw [← this]
      congr 1
      omega
    have hm' : xs.length < m := by rw [List.length_cons] at hm; omega
    have l3 : S.n ≤ S3.n := ((k1.trans k2).trans k3).n
    rw [lc_eq, h1]
    dsimp only
    rw [e2]
    dsimp only
    rw [e3]
    cases t' with
    | false =>
      dsimp only
      exact lc_inc hJ ha ht he hn m (i + 1) xs acc vacc S3 (b + ka + kt) hm' nx q3 kp3 (ia.mono l3) p3 (by omega)
    | true =>
      dsimp only
      have nw := hn q3 (en2.kp k3) p3 (by omega)
      obtain ⟨y, S4, d4, e4, k4, p4, i4, q4⟩ := he q3 (en2.kp k3) p3 (by omega)
      rw [e4]
      dsimp only
      refine lc_inc hJ ha ht he hn m (i + 1) xs (d4 :: acc) (y :: vacc) S4 (b + ka + kt + ke) hm' nx q4 (kp3.trans k4) ?_ p4 (by omega)
      rw [List.reverse_cons]
      refine (ia.mono l3).snoc (fun n e => ⟨nw y S4 e4 n e, ?_⟩) k4.n
      subst e
      exact Is.lt p4 i4
section
variable {C : Wc} {wc : WCl} {kf : Nat → Nat} {cl : Nat → List Vl → Sto → R Vl} (hc : Snd C wc kf cl)
include hc
theorem evs_inc : ∀ (es : Es) {δ : PEnv} {ρ : MP.Env} {S : Sto} {b : Nat} {Q : List D → Prop}, freshA es = true → wpA wc es δ Q → EnvI C S ρ δ → PuOk C b S → b + cA kf es ≤ BIG → ∀ vs S', evs cl es ρ S = .ok vs S' → IncF S.n S'.n vs
  | .nil, δ, ρ, S, b, Q, f, h, en, p, hb => fun vs S' e => by cases e; exact Nat.le_refl _
  | .cons a r, δ, ρ, S, b, Q, f, h, en, p, hb => by
    have hb : b + (cE kf a + cA kf r) ≤ BIG := hb
    obtain ⟨f1, f2⟩ := and2 f
    obtain ⟨u, S1, x, e1, k1, p1, i1, q1⟩ := sE hc a h en p (by omega)
    have nw := fresh_ok hc a f1 h en p (by omega)
    intro vs S' e
    have e : ((ev cl a ρ S).bind fun v S1 => (evs cl r ρ S1).bind fun vs S2 => R.ok (v :: vs) S2) = .ok vs S' := e
    rw [e1] at e
    have e : ((evs cl r ρ S1).bind fun vs S2 => R.ok (u :: vs) S2) = .ok vs S' := e
    obtain ⟨us, S2, e2, e3⟩ := bind_ok e
    cases e3
    refine ⟨S1.n, fun n z => ⟨nw u S1 e1 n z, ?_⟩, k1.n, evs_inc r f2 q1 (en.kp k1) p1 (by omega) us S' e2⟩
    subst z
    exact Is.lt p1 i1
theorem deep_ok : ∀ (e : E) {δ : PEnv} {ρ : MP.Env} {S : Sto} {b : Nat} {Q : D → Prop}, deepE e = true → wpE wc e δ Q → EnvI C S ρ δ → PuOk C b S → b + cE kf e ≤ BIG → ∀ v S', ev cl e ρ S = .ok v S' → ∃ n vs, v = .ref n ∧ S'.get n = some (.lst vs) ∧ IncF S.n n vs
  | .lst es, δ, ρ, S, b, Q, f, h, en, p, hb => by
    have hb : b + cA kf es ≤ BIG := hb
    intro v S' e
    have e : ((evs cl es ρ S).bind fun vs S1 => newL vs S1) = .ok v S' := e
    obtain ⟨vs, S1, e1, e2⟩ := bind_ok e
    unfold MP.newL at e2
    split at e2
    · cases e2
      exact ⟨S1.n, vs, rfl, by rw [Sto.get_push, if_pos rfl], evs_inc hc es f h en p hb vs S1 e1⟩
    · cases e2
  | .lc own tg it ifs elt, δ, ρ, S, b, Q, f, h, en, p, hb => by
    have hb : b + (cI kf it + LF * (cG kf tg + (cT kf ifs + cE kf elt))) ≤ BIG := hb
    obtain ⟨J, S1, xs, e1, k1, p1, i1, hl, q⟩ := sI hc it h en p (by omega)
    have en1 := (en.kp k1).wipe own
    intro v S' e
    rw [lc_run e1] at e
    obtain ⟨n, vs, h1, h2, h3⟩ := lc_inc i1 (fun {x v S b K} kk w ix pp bb => sG hc tg w (en1.kp kk) ix pp bb) (fun {δ' ρ' S b K} w e pp bb => sT hc ifs w e pp bb) (fun {δ' ρ' S b K} w e pp bb => sE hc elt w e pp bb) (fun {δ' ρ' S b K} w e pp bb => fresh_ok hc elt f w e pp bb) LF 0 xs [] [] S1 _ hl (fun j => by rw [Nat.zero_add]) q Kp.refl (Nat.le_refl _) p1 (by omega) v S' e
    have mono : ∀ {l : List Vl} {N N' M : Nat}, N' ≤ N → IncF N M l → IncF N' M l := by
      intro l
      cases l with
      | nil => exact fun h1 h2 => Nat.le_trans h1 h2
      | cons a l => rintro N N' M h1 ⟨M', z1, z2, z3⟩; exact ⟨M', fun n e => ⟨Nat.le_trans h1 (z1 n e).1, (z1 n e).2⟩, Nat.le_trans h1 z2, z3⟩
    exact ⟨n, vs, h1, h2, mono k1.n h3⟩
end
end MP
namespace MP
open PySem
section
variable (j : Nat)
mutual
def hasE : E → Bool
  | .var i => Nat.beq i j
  | .bin _ a b => hasE a || hasE b
  | .neg a => hasE a
  | .not a => hasE a
  | .and a b => hasE a || hasE b
  | .or a b => hasE a || hasE b
  | .cmp _ a b => hasE a || hasE b
  | .chn _ _ a b e => hasE a || (hasE b || hasE e)
  | .ite c a b => hasT c || (hasE a || hasE b)
  | .lst es => hasA es
  | .tup es => hasA es
  | .sub a b => hasE a || hasE b
  | .cut a lo hi => hasE a || (hasE lo || hasE hi)
  | .call _ es _ => hasA es
  | .callK _ es ks _ => hasA es || hasA ks
  | .bi _ es => hasA es
  | .isi a _ _ => hasE a
  | .mt _ a es => hasE a || hasA es
  | .lc _ _ it ifs elt => hasI it || (hasT ifs || hasE elt)
  | .lrg es => hasA es
  | _ => false
termination_by structural x => x
def hasA : Es → Bool
  | .nil => false
  | .cons e r => hasE e || hasA r
termination_by structural x => x
def hasT : Tt → Bool
  | .yes => false
  | .not a => hasT a
  | .and a b => hasT a || hasT b
  | .or a b => hasT a || hasT b
  | .cmp _ a b => hasE a || hasE b
  | .chn _ _ a b e => hasE a || (hasE b || hasE e)
  | .val e => hasE e
termination_by structural x => x
def hasI : MP.It → Bool
  | .seq e => hasE e
  | .rng es => hasA es
  | .enum e => hasE e
  | .zip a b => hasE a || hasE b
termination_by structural x => x
end
end
mutual
/-- no list in it -/
def D.noL : D → Bool
  | .lst _ _ => false
  | .tup xs => D.noLs xs
  | _ => true
def D.noLs : List D → Bool
  | [] => true
  | d :: ds => d.noL && D.noLs ds
end
def keepD (f : Bool) : D → Bool
  | .lst _ xs => f && D.noLs xs
  | d => d.noL
def keepE (e : E) (ow : List Nat) : List Nat := ow.filter fun j => !hasE j e
def keepT (e : Tt) (ow : List Nat) : List Nat := ow.filter fun j => !hasT j e
def keepI (e : MP.It) (ow : List Nat) : List Nat := ow.filter fun j => !hasI j e
def dropO (ow : List Nat) (x : Nat) : List Nat := ow.filter fun j => !Nat.beq j x
def isRng : MP.It → Bool
  | .rng _ => true
  | _ => false
structure OEnds where
  nx : PEnv → List Nat → Prop
  rt : D → Prop
  bk : PEnv → List Nat → Prop := fun _ _ => False
  ct : PEnv → List Nat → Prop := fun _ _ => False
section
variable (wc : WCl) (dm : List Nat)
def wO1 (e : E) (δ : PEnv) (ow : List Nat) (Q : D → List Nat → Prop) : Prop := wpE wc e (wipeD δ (keepE e ow)) fun d => Q d (if keepD (freshE e) d = true then ow else keepE e ow)
def wO0 (e : E) (δ : PEnv) (ow : List Nat) (Q : D → List Nat → Prop) : Prop := match e with
  | .sub (.var x) i => if (ow.contains x && !dm.contains x) = true then wO1 wc i δ ow (fun y ow1 => ow1.contains x = true ∧ ∃ t xs k d, δ[x]? = some (some (.lst t xs)) ∧ y = .int k ∧ atA xs k = some d ∧ Q d ow1) else wO1 wc (.sub (.var x) i) δ ow Q
  | e => wO1 wc e δ ow Q
def wOA : Es → PEnv → List Nat → (List D → List Nat → Prop) → Prop
  | .nil, _, ow, Q => Q [] ow
  | .cons e r, δ, ow, Q => wO0 wc dm e δ ow fun d ow1 => wOA r δ ow1 fun ds ow2 => Q (d :: ds) ow2
termination_by structural x => x
def woE (e : E) (δ : PEnv) (ow : List Nat) (Q : D → List Nat → Prop) : Prop := match e with
  | .tup es => wOA wc dm es δ ow fun xs ow1 => xs.length ≤ lineN ∧ Q (.tup xs) ow1
  | .lst es => wOA wc dm es δ ow fun xs ow1 => xs.length ≤ lineN ∧ Q (.lst true xs) ow1
  | e => wO0 wc dm e δ ow Q
mutual
def woG : Tg → D → PEnv → List Nat → (PEnv → List Nat → Prop) → Prop
  | .name i, d, δ, ow, Q => Q (δ.set i (some d)) (dropO ow i)
  | .tup ts, d, δ, ow, Q => ∃ xs, d.seq = some xs ∧ xs.length = ts.len ∧ woGs ts xs δ ow Q
  | .sub (.var x) i, d, δ, ow, Q => dm.contains x = false ∧ wO1 wc i δ ow fun y ow1 => ow1.contains x = true ∧ ∃ t xs k n, δ[x]? = some (some (.lst t xs)) ∧ y = .int k ∧ ixI xs.length k = some n ∧ Q (δ.set x (some (.lst true (xs.set n d)))) ow1
  | .sub (.sub (.var x) i) j, d, δ, ow, Q => ow.contains x = true ∧ dm.contains x = true ∧ wO1 wc i δ ow fun y ow0 => wO1 wc j δ ow0 fun z ow1 => ow1.contains x = true ∧ ∃ t xs k n zs l m, δ[x]? = some (some (.lst t xs)) ∧ y = .int k ∧ ixI xs.length k = some n ∧ xs[n]? = some (.lst true zs) ∧ z = .int l ∧ ixI zs.length l = some m ∧ Q (δ.set x (some (.lst true (xs.set n (.lst true (zs.set m d)))))) ow1
  | .sub _ _, _, _, _, _ => False
termination_by structural x => x
def woGs : Tgs → List D → PEnv → List Nat → (PEnv → List Nat → Prop) → Prop
  | .nil, [], δ, ow, Q => Q δ ow
  | .cons t r, x :: xs, δ, ow, Q => woG t x δ ow fun δ1 ow1 => woGs r xs δ1 ow1 Q
  | _, _, _, _, _ => False
termination_by structural x => x
end
def woPop (x : Nat) (δ : PEnv) (ow : List Nat) (Q : D → PEnv → List Nat → Prop) : Prop := ow.contains x = true ∧ dm.contains x = false ∧ ∃ t xs d, δ[x]? = some (some (.lst t xs)) ∧ xs[xs.length - 1]? = some d ∧ Q d (δ.set x (some (.lst true xs.dropLast))) ow
def woX (e : E) (δ : PEnv) (ow : List Nat) (Q : PEnv → List Nat → Prop) : Prop := match e with
  | .mt .append (.var x) (.cons a .nil) => ow.contains x = true ∧ dm.contains x = false ∧ woE wc dm a δ ow (fun d ow1 => ow1.contains x = true ∧ ∃ t xs, δ[x]? = some (some (.lst t xs)) ∧ xs.length < lineN ∧ Q (δ.set x (some (.lst true (xs ++ [d])))) ow1)
  | .mt .append (.sub (.var x) i) (.cons a .nil) => ow.contains x = true ∧ dm.contains x = true ∧ wO1 wc i δ ow fun y ow0 => ow0.contains x = true ∧ ∃ t xs k n zs, δ[x]? = some (some (.lst t xs)) ∧ y = .int k ∧ ixI xs.length k = some n ∧ xs[n]? = some (.lst true zs) ∧ zs.length < lineN ∧ woE wc dm a δ ow0 fun d ow1 => ow1.contains x = true ∧ Q (δ.set x (some (.lst true (xs.set n (.lst true (zs ++ [d])))))) ow1
  | .mt .insert (.var x) (.cons i (.cons a .nil)) => ow.contains x = true ∧ dm.contains x = false ∧ wO1 wc i δ ow (fun y ow0 => woE wc dm a δ ow0 fun d ow1 => ow1.contains x = true ∧ ∃ t xs k, δ[x]? = some (some (.lst t xs)) ∧ y = .int k ∧ (0 ≤ k ∧ k < 2 ^ 63) ∧ xs.length < lineN ∧ Q (δ.set x (some (.lst true (xs.take k.toNat ++ [d] ++ xs.drop k.toNat)))) ow1)
  | .mt .pop0 (.var x) .nil => woPop dm x δ ow fun _ δ1 ow1 => Q δ1 ow1
  | e => woE wc dm e δ ow fun _ ow1 => Q δ ow1
def wOwn (x : Nat) (e : E) (δ : PEnv) (ow : List Nat) (Q : PEnv → List Nat → Prop) : Prop :=
  x < δ.length ∧ wpE wc e (wipeD δ (keepE e ow)) fun d => ∃ xs, d = .lst true xs ∧ Q (δ.set x (some d)) (x :: dropO (if keepD true d = true then ow else keepE e ow) x)
def wOwnD (x : Nat) (e : E) (δ : PEnv) (ow : List Nat) (Q : PEnv → List Nat → Prop) : Prop :=
  x < δ.length ∧ wpE wc e (wipeD δ (keepE e ow)) fun d => ∃ xs : List (List D), d = .lst true (xs.map (D.lst true)) ∧ (∀ ys ∈ xs, D.allFlat ys = true) ∧ Q (δ.set x (some d)) (x :: dropO (keepE e ow) x)
def woFor (as : D → PEnv → List Nat → (PEnv → List Nat → Prop) → Prop) (bd : PEnv → List Nat → OEnds → Prop) : List D → PEnv → List Nat → OEnds → Prop
  | [], δ, ow, E => E.nx δ ow
  | x :: xs, δ, ow, E => as x δ ow fun δ1 ow1 => bd δ1 ow1 { nx := fun δ2 ow2 => woFor as bd xs δ2 ow2 E, ct := fun δ2 ow2 => woFor as bd xs δ2 ow2 E, bk := E.nx, rt := E.rt }
def woWhl (tt : PEnv → List Nat → (Bool → Prop) → Prop) (bd : PEnv → List Nat → OEnds → Prop) : Nat → PEnv → List Nat → OEnds → Prop
  | 0, _, _, _ => False
  | f + 1, δ, ow, E => tt δ ow fun t => match t with
    | true => bd δ ow { nx := fun δ2 ow2 => woWhl tt bd f δ2 ow2 E, ct := fun δ2 ow2 => woWhl tt bd f δ2 ow2 E, bk := E.nx, rt := E.rt }
    | false => E.nx δ ow
def woT (c : Tt) (δ : PEnv) (ow : List Nat) (Q : Bool → Prop) : Prop := wpT wc c (wipeD δ (keepT c ow)) Q
def woAsg (om : List Nat) (t : Tg) (e : E) (δ : PEnv) (ow : List Nat) (Q : PEnv → List Nat → Prop) : Prop := match e with
  | .mt .pop0 (.var y) .nil => woPop dm y δ ow fun d δ1 ow1 => woG wc dm t d δ1 ow1 Q
  | e => match t with
    | .name x => if (om.contains x && freshE e) = true then (if dm.contains x = true then deepE e = true ∧ wOwnD wc x e δ ow Q else wOwn wc x e δ ow Q) else woE wc dm e δ ow fun d ow1 => Q (δ.set x (some d)) (dropO ow1 x)
    | t => woE wc dm e δ ow fun d ow1 => woG wc dm t d δ ow1 Q
variable (om : List Nat)
mutual
def woS : Sm → PEnv → List Nat → OEnds → Prop
  | .bad, _, _, _ => False
  | .pass, δ, ow, E => E.nx δ ow
  | .expr e, δ, ow, E => woX wc dm e δ ow E.nx
  | .asg t e, δ, ow, E => woAsg wc dm om t e δ ow E.nx
  | .par i j a b, δ, ow, E => woE wc dm a δ ow fun x ow1 => woE wc dm b δ ow1 fun y ow2 => E.nx ((δ.set i (some x)).set j (some y)) (dropO (dropO ow2 i) j)
  | .ret e, δ, _, E => wpE wc e δ E.rt
  | .retN, _, _, E => E.rt .non
  | .ite c a b, δ, ow, E => woT wc c δ ow fun t => match t with
    | true => woSs a δ ow E
    | false => woSs b δ ow E
  | .forr t it b, δ, ow, E => wpI wc it (wipeD δ (keepI it ow)) fun xs => xs.length < LF ∧ woFor (fun x δ' ow' K => woG wc dm t x δ' ow' K) (fun δ' ow' E' => woSs b δ' ow' E') xs δ (if isRng it = true then ow else keepI it ow) E
  | .whl c b, δ, ow, E => ∃ f, f ≤ LF ∧ woWhl (fun δ' ow' K => woT wc c δ' ow' K) (fun δ' ow' E' => woSs b δ' ow' E') f δ ow E
  | .brk, δ, ow, E => E.bk δ ow
  | .cnt, δ, ow, E => E.ct δ ow
termination_by structural x => x
def woSs : Ss → PEnv → List Nat → OEnds → Prop
  | .nil, δ, ow, E => E.nx δ ow
  | .cons s r, δ, ow, E => woS s δ ow { E with nx := fun δ1 ow1 => woSs r δ1 ow1 E }
termination_by structural x => x
end
end
end MP
namespace MP
open PySem
def hid (cs : Nat → List Nat) (ow : List Nat) : Nat → Bool := fun i => ow.any fun j => (cs j).any fun k => Nat.beq k i
theorem hid_iff {cs : Nat → List Nat} {ow : List Nat} {i : Nat} : hid cs ow i = true ↔ ∃ j ∈ ow, i ∈ cs j := by
  unfold hid
  rw [List.any_eq_true]
  constructor
  · rintro ⟨j, h1, h2⟩
    rw [List.any_eq_true] at h2
    obtain ⟨k, h3, h4⟩ := h2
    exact ⟨j, h1, Nat.eq_of_beq_eq_true h4 ▸ h3⟩
  · rintro ⟨j, h1, h2⟩
    refine ⟨j, h1, ?_⟩
    rw [List.any_eq_true]
    exact ⟨i, h2, Nat.beq_refl i⟩
theorem hid_sub {cs : Nat → List Nat} {ow1 ow : List Nat} (s : ∀ j ∈ ow1, j ∈ ow) : ∀ i, hid cs ow1 i = true → hid cs ow i = true := fun i h => by
  obtain ⟨j, h1, h2⟩ := hid_iff.mp h
  exact hid_iff.mpr ⟨j, s j h1, h2⟩
/-- an inner list -/
def InL (C : Wc) (S : Sto) (n : Nat) (xs : List D) : Prop := ∃ vs, S.get n = some (.lst vs) ∧ IsL C S xs vs
def OwnV (deep : Bool) (C : Wc) (S : Sto) (d : D) (v : Vl) (cs : List Nat) : Prop := match deep with
  | false => ∃ n xs vs, v = .ref n ∧ cs = [n] ∧ d = .lst true xs ∧ S.get n = some (.lst vs) ∧ IsL C S xs vs
  | true => ∃ n ns yss, v = .ref n ∧ cs = n :: ns ∧ (n :: ns).Nodup ∧ d = .lst true (yss.map (D.lst true)) ∧ S.get n = some (.lst (ns.map Vl.ref)) ∧ Paired (InL C S) ns yss
theorem Paired.memL {α β : Type} {F : α → β → Prop} {a : α} : ∀ {l₁ : List α} {l₂ : List β}, Paired F l₁ l₂ → a ∈ l₁ → ∃ b, F a b
  | _, _, .nil, h => (List.not_mem_nil h).elim
  | _, _, .cons r t, h => by
    rcases List.mem_cons.mp h with e | h
    · subst e; exact ⟨_, r⟩
    · exact Paired.memL t h
theorem OwnV.held {deep : Bool} {C : Wc} {S : Sto} {d : D} {v : Vl} {cs : List Nat} (h : OwnV deep C S d v cs) {i : Nat} (hi : i ∈ cs) : ∃ vs, S.get i = some (.lst vs) := by
  cases deep with
  | false =>
    obtain ⟨n, xs, vs, _, rfl, _, g, _⟩ := h
    rw [List.mem_singleton.mp hi]
    exact ⟨vs, g⟩
  | true =>
    obtain ⟨n, ns, yss, _, rfl, _, _, g, p⟩ := h
    rcases List.mem_cons.mp hi with e | hi
    · rw [e]; exact ⟨_, g⟩
    · obtain ⟨b, vs, g2, _⟩ := Paired.memL p hi
      exact ⟨vs, g2⟩
theorem Paired.impM {α β : Type} {F G : α → β → Prop} : ∀ {l₁ : List α} {l₂ : List β}, Paired F l₁ l₂ → (∀ a b, a ∈ l₁ → F a b → G a b) → Paired G l₁ l₂
  | _, _, .nil, _ => .nil
  | _, _, .cons r t, f => .cons (f _ _ List.mem_cons_self r) (Paired.impM t fun a b h => f a b (List.mem_cons_of_mem _ h))
theorem OwnV.move {deep : Bool} {C C1 : Wc} {S S1 : Sto} {d : D} {v : Vl} {cs : List Nat} (h : OwnV deep C S d v cs) (g : ∀ i ∈ cs, S1.get i = S.get i) (t : ∀ xs vs, IsL C S xs vs → IsL C1 S1 xs vs) : OwnV deep C1 S1 d v cs := by
  cases deep with
  | false =>
    obtain ⟨n, xs, vs, h1, rfl, h2, h3, h4⟩ := h
    exact ⟨n, xs, vs, h1, rfl, h2, by rw [g n List.mem_cons_self]; exact h3, t _ _ h4⟩
  | true =>
    obtain ⟨n, ns, yss, h1, rfl, nd, h2, h3, h4⟩ := h
    exact ⟨n, ns, yss, h1, rfl, nd, h2, by rw [g n List.mem_cons_self]; exact h3, Paired.impM h4 fun a b ha ⟨vs, q1, q2⟩ => ⟨vs, by rw [g a (List.mem_cons_of_mem _ ha)]; exact q1, t _ _ q2⟩⟩
/-- given up, it is plain -/
theorem OwnV.plain {deep : Bool} {C C1 : Wc} {S : Sto} {d : D} {v : Vl} {cs : List Nat} (h : OwnV deep C S d v cs) (t : ∀ xs vs, IsL C S xs vs → IsL C1 S xs vs) (p : ∀ i ∈ cs, C1.pu i = false ∧ C1.n0 ≤ i) : Is C1 S d v := by
  cases deep with
  | false =>
    obtain ⟨n, xs, vs, rfl, rfl, rfl, h3, h4⟩ := h
    obtain ⟨p1, p2⟩ := p n List.mem_cons_self
    exact ⟨n, vs, rfl, h3, p1, (decide_eq_true p2).symm, t _ _ h4⟩
  | true =>
    obtain ⟨n, ns, yss, rfl, rfl, nd, rfl, h3, h4⟩ := h
    obtain ⟨p1, p2⟩ := p n List.mem_cons_self
    refine ⟨n, ns.map Vl.ref, rfl, h3, p1, (decide_eq_true p2).symm, ?_⟩
    have all : ∀ {ns : List Nat} {yss : List (List D)}, Paired (InL C S) ns yss → (∀ i ∈ ns, C1.pu i = false ∧ C1.n0 ≤ i) → IsL C1 S (yss.map (D.lst true)) (ns.map Vl.ref) := by
      intro ns yss pr
      induction pr with
      | nil => exact fun _ => rfl
      | cons r _ ih =>
        rename_i a b l1 l2 _
        intro q
        obtain ⟨vs, g, il⟩ := r
        obtain ⟨q1, q2⟩ := q a List.mem_cons_self
        exact ⟨.ref a, l1.map Vl.ref, rfl, ⟨a, vs, rfl, g, q1, (decide_eq_true q2).symm, t _ _ il⟩, ih fun i hi => q i (List.mem_cons_of_mem _ hi)⟩
    exact all h4 fun i hi => p i (List.mem_cons_of_mem _ hi)
structure RO (dm : List Nat) (C : Wc) (N : Nat) (cs : Nat → List Nat) (S : Sto) (ρ : MP.Env) (δ : PEnv) (ow : List Nat) : Prop where
  n : N ≤ S.n
  c0 : C.n0 ≤ N
  cN : ∀ i, C.pu i = true → i < N
  inj : ∀ j ∈ ow, ∀ k ∈ ow, ∀ i, i ∈ cs j → i ∈ cs k → j = k
  len : ρ.length = δ.length
  plain : ∀ j d, j ∉ ow → δ[j]? = some (some d) → ∃ v, ρ[j]? = some (some v) ∧ Is (C.hide (hid cs ow) S) S d v
  own : ∀ j ∈ ow, ∃ d v, ρ[j]? = some (some v) ∧ δ[j]? = some (some d) ∧ OwnV (dm.contains j) (C.hide (hid cs ow) S) S d v (cs j) ∧ ∀ i ∈ cs j, N ≤ i
section
variable {dm : List Nat} {C : Wc} {N : Nat} {cs : Nat → List Nat} {S : Sto} {ρ : MP.Env} {δ : PEnv} {ow ow1 : List Nat}
theorem RO.lst (r : RO dm C N cs S ρ δ ow) : LstAt S (hid cs ow) := fun i h => by
  obtain ⟨j, h1, h2⟩ := hid_iff.mp h
  obtain ⟨_, _, _, _, o, _⟩ := r.own j h1
  exact o.held h2
theorem RO.apart (r : RO dm C N cs S ρ δ ow) : ∀ i, hid cs ow i = true → C.pu i = false := fun i h => by
  obtain ⟨j, h1, h2⟩ := hid_iff.mp h
  cases c : C.pu i with
  | false => rfl
  | true =>
    have := r.cN i c
    obtain ⟨_, _, _, _, _, l⟩ := r.own j h1
    have := l i h2
    omega
/-- some slots give up what they own -/
theorem RO.sub (r : RO dm C N cs S ρ δ ow) (s : ∀ j ∈ ow1, j ∈ ow) : RO dm C N cs S ρ δ ow1 := by
  have t : ∀ xs vs, IsL (C.hide (hid cs ow) S) S xs vs → IsL (C.hide (hid cs ow1) S) S xs vs := fun xs vs h => IsL.hide_mono r.lst (hid_sub s) xs h
  refine ⟨r.n, r.c0, r.cN, fun j hj k hk => r.inj j (s j hj) k (s k hk), r.len, fun j d hj e => ?_, fun j hj => ?_⟩
  · by_cases c : j ∈ ow
    · obtain ⟨d', v, h2, h3, o, l⟩ := r.own j c
      rw [h3] at e
      cases e
      refine ⟨v, h2, o.plain t fun i hi => ⟨pu_hide.mpr ⟨r.apart _ (hid_iff.mpr ⟨j, c, hi⟩), Bool.eq_false_iff.mpr fun z => ?_⟩, ?_⟩⟩
      · obtain ⟨k, h6, h7⟩ := hid_iff.mp z
        have := r.inj k (s k h6) j c i h7 hi
        subst this
        exact hj h6
      · have := r.c0
        have := l i hi
        show C.n0 ≤ i
        omega
    · obtain ⟨v, h1, h2⟩ := r.plain j d c e
      exact ⟨v, h1, Is.hide_mono r.lst (hid_sub s) d h2⟩
  · obtain ⟨d, v, h2, h3, o, l⟩ := r.own j (s j hj)
    exact ⟨d, v, h2, h3, o.move (fun _ _ => rfl) t, l⟩
/-- a run under a view with fewer cells -/
theorem RO.run (r : RO dm C N cs S ρ δ ow) (s : ∀ j ∈ ow1, j ∈ ow) {S1 : Sto} {b : Nat} (k : Kp (C.hide (hid cs ow1) S) S S1) (p : PuOk (C.hide (hid cs ow1) S) b S1) : RO dm C N cs S1 ρ δ ow ∧ Trn (C.hide (hid cs ow) S) S (C.hide (hid cs ow) S1) S1 := by
  obtain ⟨k1, k2, k3⟩ := Kp.more r.apart (hid_sub s) r.lst k p
  have t : ∀ d v, Is (C.hide (hid cs ow) S) S d v → Is (C.hide (hid cs ow) S1) S1 d v := fun d v h => Is.hide_mono r.lst (fun _ z => z) d (Is.kp k1 d h)
  have tr : Trn (C.hide (hid cs ow) S) S (C.hide (hid cs ow) S1) S1 := ⟨k1.keep, t⟩
  refine ⟨⟨Nat.le_trans r.n k.n, r.c0, r.cN, r.inj, r.len, fun j d hj e => ?_, fun j hj => ?_⟩, tr⟩
  · obtain ⟨v, h1, h2⟩ := r.plain j d hj e
    exact ⟨v, h1, t d v h2⟩
  · obtain ⟨d, v, h2, h3, o, l⟩ := r.own j hj
    exact ⟨d, v, h2, h3, o.move (fun i hi => k2 _ (hid_iff.mpr ⟨j, hj, hi⟩)) (fun xs vs h => tr.isL xs h), l⟩
/-- what a term may read -/
theorem RO.env (r : RO dm C N cs S ρ δ ow) : EnvI (C.hide (hid cs ow) S) S ρ (wipeD δ ow) := by
  have wl : ∀ l : List Nat, (wipeD δ l).length = δ.length := fun l => by
    induction l with
    | nil => rfl
    | cons a l ih => unfold wipeD; rw [List.length_set, ih]
  have wg : ∀ (l : List Nat) (j : Nat) (d : D), (wipeD δ l)[j]? = some (some d) → j ∉ l ∧ δ[j]? = some (some d) := fun l => by
    induction l with
    | nil => exact fun j d h => ⟨fun z => (List.not_mem_nil z).elim, h⟩
    | cons a l ih =>
      intro j d h
      unfold wipeD at h
      rw [List.getElem?_set] at h
      by_cases c : a = j
      · rw [if_pos c] at h
        split at h <;> cases h
      · rw [if_neg c] at h
        obtain ⟨h1, h2⟩ := ih j d h
        exact ⟨fun z => by rcases List.mem_cons.mp z with y | y; exact c y.symm; exact h1 y, h2⟩
  refine ⟨by rw [wl]; exact r.len, fun j d h => ?_⟩
  obtain ⟨h1, h2⟩ := wg ow j d h
  exact r.plain j d h1 h2
end
theorem contains_mem {ow : List Nat} {x : Nat} (h : ow.contains x = true) : x ∈ ow := List.contains_iff_mem.mp h
/-- an owned slot that is not deep -/
theorem RO.flat {dm : List Nat} {C : Wc} {N : Nat} {cs : Nat → List Nat} {S : Sto} {ρ : MP.Env} {δ : PEnv} {ow : List Nat} (r : RO dm C N cs S ρ δ ow) {x : Nat} (hx : x ∈ ow) (hd : dm.contains x = false) :
    ∃ n xs vs, N ≤ n ∧ cs x = [n] ∧ ρ[x]? = some (some (.ref n)) ∧ δ[x]? = some (some (.lst true xs)) ∧ S.get n = some (.lst vs) ∧ IsL (C.hide (hid cs ow) S) S xs vs := by
  obtain ⟨d, v, h2, h3, o, l⟩ := r.own x hx
  rw [hd] at o
  obtain ⟨n, xs, vs, rfl, e, rfl, g, il⟩ := o
  exact ⟨n, xs, vs, l n (by rw [e]; exact List.mem_cons_self), e, h2, h3, g, il⟩
theorem RO.deep {dm : List Nat} {C : Wc} {N : Nat} {cs : Nat → List Nat} {S : Sto} {ρ : MP.Env} {δ : PEnv} {ow : List Nat} (r : RO dm C N cs S ρ δ ow) {x : Nat} (hx : x ∈ ow) (hd : dm.contains x = true) :
    ∃ n ns yss, N ≤ n ∧ cs x = n :: ns ∧ (n :: ns).Nodup ∧ ρ[x]? = some (some (.ref n)) ∧ δ[x]? = some (some (.lst true (yss.map (D.lst true)))) ∧ S.get n = some (.lst (ns.map Vl.ref)) ∧ Paired (InL (C.hide (hid cs ow) S) S) ns yss := by
  obtain ⟨d, v, h2, h3, o, l⟩ := r.own x hx
  rw [hd] at o
  obtain ⟨n, ns, yss, rfl, e, nd, rfl, g, il⟩ := o
  exact ⟨n, ns, yss, l n (by rw [e]; exact List.mem_cons_self), e, nd, h2, h3, g, il⟩
end MP
namespace MP
open PySem
mutual
theorem Is.noL {C : Wc} {h h1 : Nat → Bool} {S0 S : Sto} (a : ∀ i, h i = true → C.pu i = false) (l0 : LstAt S0 h1) (l : LstAt S h) : ∀ (d : D) {v : Vl}, d.noL = true → Is (C.hide h1 S0) S d v → Is (C.hide h S) S d v
  | .non, v, _, k => k
  | .bl b, v, _, k => k
  | .int b, v, _, k => k
  | .str b, v, _, k => k
  | .lst t xs, v, hl, _ => by cases hl
  | .tup xs, v, hl, ⟨n, vs, e, g, p, il⟩ => by
    obtain ⟨p1, p2⟩ := pu_hide.mp p
    refine ⟨n, vs, e, g, pu_hide.mpr ⟨p1, Bool.eq_false_iff.mpr fun z => ?_⟩, IsL.noL a l0 l xs hl il⟩
    obtain ⟨ws, g2⟩ := l n z
    rw [g] at g2
    cases g2
  | .dct, v, hl, ⟨n, e, g, p⟩ => by
    obtain ⟨p1, p2⟩ := pu_hide.mp p
    refine ⟨n, e, g, pu_hide.mpr ⟨p1, Bool.eq_false_iff.mpr fun z => ?_⟩⟩
    obtain ⟨ws, g2⟩ := l n z
    rw [g] at g2
    cases g2
  | .pur n, v, hl, ⟨e, p, q⟩ => by
    have p : (C.pu n || h1 n) = true := p
    cases c : h1 n with
    | true => exact absurd q (l0.ce c)
    | false =>
      have q : (if h1 n = true then cont S0 n else C.ce n) = none := q
      rw [c] at p q
      rw [Bool.or_false] at p
      rw [if_neg (by decide)] at q
      have c1 : h n = false := Bool.eq_false_iff.mpr fun z => by rw [a n z] at p; cases p
      refine ⟨e, ?_, ?_⟩
      · show (C.pu n || h n) = true
        rw [p]; rfl
      · show (if h n = true then cont S n else C.ce n) = none
        rw [c1, if_neg (by decide)]
        exact q
theorem IsL.noL {C : Wc} {h h1 : Nat → Bool} {S0 S : Sto} (a : ∀ i, h i = true → C.pu i = false) (l0 : LstAt S0 h1) (l : LstAt S h) : ∀ (ds : List D) {vs : List Vl}, D.noLs ds = true → IsL (C.hide h1 S0) S ds vs → IsL (C.hide h S) S ds vs
  | [], vs, _, k => k
  | d :: ds, vs, hl, ⟨v, r, e, h2, h3⟩ => by
    obtain ⟨n1, n2⟩ := and2 hl
    exact ⟨v, r, e, Is.noL a l0 l d n1 h2, IsL.noL a l0 l ds n2 h3⟩
end
theorem Trn.trans {C C1 C2 : Wc} {S S1 S2 : Sto} (a : Trn C S C1 S1) (b : Trn C1 S1 C2 S2) (l : ∀ i o, S.get i = some o → C.pu i = false → C1.pu i = false) : Trn C S C2 S2 :=
  ⟨fun i o g p => b.keep i o (a.keep i o g p) (l i o g p), fun d v h => b.is d v (a.is d v h)⟩
/-- a term's end -/
structure EEnd (dm : List Nat) (C : Wc) (N : Nat) (cs : Nat → List Nat) (b : Nat) (S S1 : Sto) (ρ : MP.Env) (δ : PEnv) (ow ow1 : List Nat) : Prop where
  n : S.n ≤ S1.n
  p : PuOk C b S1
  s : ∀ j ∈ ow1, j ∈ ow
  r : RO dm C N cs S1 ρ δ ow1
  keep : ∀ i o, S.get i = some o → (C.hide (hid cs ow) S).pu i = false → S1.get i = some o
  is : ∀ (d : D) (v : Vl), Is (C.hide (hid cs ow) S) S d v → Is (C.hide (hid cs ow1) S1) S1 d v
def OkE (dm : List Nat) (C : Wc) (N : Nat) (cs : Nat → List Nat) (b : Nat) (S : Sto) (ρ : MP.Env) (δ : PEnv) (ow : List Nat) {α β : Type} (r : R α) (Rl : Wc → Sto → β → α → Prop) (Q : β → List Nat → Prop) : Prop :=
  ∃ v S1 d ow1, r = .ok v S1 ∧ EEnd dm C N cs b S S1 ρ δ ow ow1 ∧ Rl (C.hide (hid cs ow1) S1) S1 d v ∧ Q d ow1
theorem EEnd.trans {dm : List Nat} {C : Wc} {N : Nat} {cs : Nat → List Nat} {b b' : Nat} {S S1 S2 : Sto} {ρ : MP.Env} {δ : PEnv} {ow ow1 ow2 : List Nat} (a : EEnd dm C N cs b' S S1 ρ δ ow ow1) (c : EEnd dm C N cs b S1 S2 ρ δ ow1 ow2) : EEnd dm C N cs b S S2 ρ δ ow ow2 :=
  ⟨Nat.le_trans a.n c.n, c.p, fun j h => a.s j (c.s j h), c.r, fun i o g hp => c.keep i o (a.keep i o g hp) (by
    obtain ⟨p1, p2⟩ := pu_hide.mp hp
    exact pu_hide.mpr ⟨p1, Bool.eq_false_iff.mpr fun z => by rw [hid_sub a.s i z] at p2; cases p2⟩), fun d v h => c.is d v (a.is d v h)⟩
theorem EEnd.mono {dm : List Nat} {C : Wc} {N : Nat} {cs : Nat → List Nat} {b b' : Nat} {S S1 : Sto} {ρ : MP.Env} {δ : PEnv} {ow ow1 : List Nat} (a : EEnd dm C N cs b S S1 ρ δ ow ow1) (l : b ≤ b') : EEnd dm C N cs b' S S1 ρ δ ow ow1 := ⟨a.n, a.p.mono l, a.s, a.r, a.keep, a.is⟩
theorem EEnd.refl {dm : List Nat} {C : Wc} {N : Nat} {cs : Nat → List Nat} {b : Nat} {S : Sto} {ρ : MP.Env} {δ : PEnv} {ow : List Nat} (r : RO dm C N cs S ρ δ ow) (p : PuOk C b S) : EEnd dm C N cs b S S ρ δ ow ow := ⟨Nat.le_refl _, p, fun _ h => h, r, fun _ _ g _ => g, fun _ _ h => h⟩
theorem keep_sub {ow : List Nat} {f : Nat → Bool} : ∀ j ∈ ow.filter f, j ∈ ow := fun j h => (List.mem_filter.mp h).1
section
variable {wc : WCl} {dm : List Nat} {kf : Nat → Nat} {cl : Nat → List Vl → Sto → R Vl} (hc : ∀ C, Snd C wc kf cl)
include hc
theorem wO1_ok (e : E) {C : Wc} {N : Nat} {cs : Nat → List Nat} {δ : PEnv} {ρ : MP.Env} {S : Sto} {b : Nat} {ow : List Nat} {Q : D → List Nat → Prop} (w : wO1 wc e δ ow Q) (r : RO dm C N cs S ρ δ ow) (p : PuOk C b S) (hb : b + cE kf e ≤ BIG) :
    OkE dm C N cs (b + cE kf e) S ρ δ ow (ev cl e ρ S) Is Q := by
  have s : ∀ j ∈ keepE e ow, j ∈ ow := keep_sub
  have r1 := r.sub s
  obtain ⟨v, S1, d, e1, k1, p1, i1, q1⟩ := sE (hc _) e w r1.env (p.hide r1.lst) hb
  obtain ⟨r2, t2⟩ := r.run s k1 p1
  have pc := p1.unhide r1.apart
  by_cases c : keepD (freshE e) d = true
  · rw [if_pos c] at q1
    refine ⟨v, S1, d, ow, e1, ⟨k1.n, pc, fun _ h => h, r2, t2.keep, t2.is⟩, ?_, q1⟩
    cases d with
    | lst t xs =>
      obtain ⟨c1, c2⟩ := and2 c
      have nw := fresh_ok (hc _) e c1 w r1.env (p.hide r1.lst) hb
      obtain ⟨n, vs, ev, g, pn, ht, hl⟩ := i1
      have hn : S.n ≤ n := nw v S1 e1 n ev
      obtain ⟨p1', p2'⟩ := pu_hide.mp pn
      refine ⟨n, vs, ev, g, pu_hide.mpr ⟨p1', Bool.eq_false_iff.mpr fun z => ?_⟩, ht, IsL.noL r2.apart r1.lst r2.lst xs c2 hl⟩
      obtain ⟨ws, g2⟩ := r.lst n z
      have := Sto.get_lt g2
      omega
    | tup xs => exact Is.noL r2.apart r1.lst r2.lst _ c i1
    | _ => exact Is.noL r2.apart r1.lst r2.lst _ rfl i1
  · rw [if_neg c] at q1
    refine ⟨v, S1, d, keepE e ow, e1, ⟨k1.n, pc, s, r2.sub s, t2.keep, fun d v h => Is.hide_mono r2.lst (hid_sub s) d (t2.is d v h)⟩, Is.hide_mono r1.lst (fun _ z => z) d i1, q1⟩
theorem wO0_ok (e : E) {C : Wc} {N : Nat} {cs : Nat → List Nat} {δ : PEnv} {ρ : MP.Env} {S : Sto} {b : Nat} {ow : List Nat} {Q : D → List Nat → Prop} (w : wO0 wc dm e δ ow Q) (r : RO dm C N cs S ρ δ ow) (p : PuOk C b S) (hb : b + cE kf e ≤ BIG) :
    OkE dm C N cs (b + cE kf e) S ρ δ ow (ev cl e ρ S) Is Q := by
  unfold wO0 at w
  split at w
  · rename_i x i
    by_cases c : (ow.contains x && !dm.contains x) = true
    · rw [if_pos c] at w
      rw [Bool.and_eq_true] at c
      have cd : dm.contains x = false := by simpa using c.2
      have hb : b + (0 + cE kf i) ≤ BIG := hb
      obtain ⟨v, S1, y, ow1, e1, n1, i1, c1, t, xs, k, d, g1, rfl, at1, q⟩ := wO1_ok hc i w r p (by omega)
      cases i1
      obtain ⟨n, xs', vs, h0, h1, h2, h3, h4, h5⟩ := n1.r.flat (List.contains_iff_mem.mp c1) cd
      rw [g1] at h3
      cases h3
      obtain ⟨u, h6, h7⟩ := h5.ix at1
      refine ⟨u, S1, d, ow1, ?_, n1.mono (by show b + cE kf i ≤ b + (0 + cE kf i); omega), h7, q⟩
      have hx : ev cl (.var x) ρ S = .ok (.ref n) S := by
        unfold ev
        rw [h2]
      show ((ev cl (.var x) ρ S).bind fun x S1 => (ev cl i ρ S1).bind fun y S2 => subS x y S2) = _
      rw [hx]
      show ((ev cl i ρ S).bind fun y S2 => subS (.ref n) y S2) = _
      rw [e1]
      show subS (.ref n) (.int k) S1 = _
      simp only [subS, h4, h6]
    · rw [if_neg c] at w
      exact wO1_ok hc _ w r p hb
  · exact wO1_ok hc _ w r p hb
theorem wOA_ok : ∀ (es : Es) {C : Wc} {N : Nat} {cs : Nat → List Nat} {δ : PEnv} {ρ : MP.Env} {S : Sto} {b : Nat} {ow : List Nat} {Q : List D → List Nat → Prop} (w : wOA wc dm es δ ow Q) (r : RO dm C N cs S ρ δ ow) (p : PuOk C b S) (hb : b + cA kf es ≤ BIG),
    OkE dm C N cs (b + cA kf es) S ρ δ ow (evs cl es ρ S) IsL Q
  | .nil, C, N, nm, δ, ρ, S, b, ow, Q, w, r, p, hb => ⟨[], S, [], ow, rfl, EEnd.refl r p, rfl, w⟩
  | .cons e es, C, N, nm, δ, ρ, S, b, ow, Q, w, r, p, hb => by
    have hb : b + (cE kf e + cA kf es) ≤ BIG := hb
    obtain ⟨v, S1, d, ow1, e1, n1, i1, q1⟩ := wO0_ok hc e w r p (by omega)
    obtain ⟨vs, S2, ds, ow2, e2, n2, i2, q2⟩ := wOA_ok es q1 n1.r n1.p (by omega)
    refine ⟨v :: vs, S2, d :: ds, ow2, ?_, (n1.trans n2).mono (by show b + cE kf e + cA kf es ≤ b + (cE kf e + cA kf es); omega), ⟨v, vs, rfl, n2.is d v i1, i2⟩, q2⟩
    show ((ev cl e ρ S).bind fun v S1 => (evs cl es ρ S1).bind fun vs S2 => R.ok (v :: vs) S2) = _
    rw [e1]
    show ((evs cl es ρ S1).bind fun vs S2 => R.ok (v :: vs) S2) = _
    rw [e2]
    rfl
/-- a push of what is no cell -/
theorem EEnd.push {C : Wc} {N : Nat} {cs : Nat → List Nat} {b : Nat} {S S1 : Sto} {ρ : MP.Env} {δ : PEnv} {ow ow1 : List Nat} (a : EEnd dm C N cs b S S1 ρ δ ow ow1) (o : Ob) : EEnd dm C N cs b S (S1.push o) ρ δ ow ow1 ∧ (∀ ds vs, IsL (C.hide (hid cs ow1) S1) S1 ds vs → IsL (C.hide (hid cs ow1) (S1.push o)) (S1.push o) ds vs) := by
  have k : Kp (C.hide (hid cs ow1) S1) S1 (S1.push o) := Kp.push o
  have p := (a.p.hide a.r.lst).push o
  obtain ⟨r2, t2⟩ := a.r.run (fun _ h => h) k p
  exact ⟨a.trans ⟨k.n, a.p.push o, fun _ h => h, r2, t2.keep, t2.is⟩, fun ds vs h => t2.isL ds h⟩
theorem woE_ok (e : E) {C : Wc} {N : Nat} {cs : Nat → List Nat} {δ : PEnv} {ρ : MP.Env} {S : Sto} {b : Nat} {ow : List Nat} {Q : D → List Nat → Prop} (w : woE wc dm e δ ow Q) (r : RO dm C N cs S ρ δ ow) (p : PuOk C b S) (hb : b + cE kf e ≤ BIG) :
    OkE dm C N cs (b + cE kf e) S ρ δ ow (ev cl e ρ S) Is Q := by
  unfold woE at w
  split at w
  · rename_i es
    have hb : b + cA kf es ≤ BIG := hb
    obtain ⟨vs, S1, ds, ow1, e1, n1, i1, l1, q1⟩ := wOA_ok hc es w r p hb
    obtain ⟨n2, i2⟩ := EEnd.push hc n1 (.tup vs)
    refine ⟨.ref S1.n, S1.push (.tup vs), .tup ds, ow1, ?_, n2, ⟨S1.n, vs, rfl, by rw [Sto.get_push, if_pos rfl], pu_hide.mpr (pu_hide.mp (n1.p.hide n1.r.lst).nu), i2 _ _ i1⟩, q1⟩
    show ((evs cl es ρ S).bind fun vs S1 => newT vs S1) = _
    rw [e1]
    show newT vs S1 = _
    unfold newT
    rw [if_pos (by rw [IsL.len i1]; exact Nat.ble_eq_true_of_le l1)]
  · rename_i es
    have hb : b + cA kf es ≤ BIG := hb
    obtain ⟨vs, S1, ds, ow1, e1, n1, i1, l1, q1⟩ := wOA_ok hc es w r p hb
    obtain ⟨n2, i2⟩ := EEnd.push hc n1 (.lst vs)
    refine ⟨.ref S1.n, S1.push (.lst vs), .lst true ds, ow1, ?_, n2, ⟨S1.n, vs, rfl, by rw [Sto.get_push, if_pos rfl], pu_hide.mpr (pu_hide.mp (n1.p.hide n1.r.lst).nu), ?_, i2 _ _ i1⟩, q1⟩
    · show ((evs cl es ρ S).bind fun vs S1 => newL vs S1) = _
      rw [e1]
      show newL vs S1 = _
      unfold newL
      rw [if_pos (by rw [IsL.len i1]; exact Nat.ble_eq_true_of_le l1)]
    · have h1 := n1.r.c0
      have h2 := n1.r.n
      exact (decide_eq_true (show C.n0 ≤ S1.n by omega)).symm
  · exact wO0_ok hc _ w r p hb
end
end MP
namespace MP
open PySem
/-- from one state to the next: what is held and no cell stays -/
structure SEnd (C : Wc) (cs cs1 : Nat → List Nat) (b : Nat) (S S1 : Sto) (ow ow1 : List Nat) : Prop where
  n : S.n ≤ S1.n
  p : PuOk C b S1
  keep : ∀ i o, S.get i = some o → (C.hide (hid cs ow) S).pu i = false → S1.get i = some o ∧ (C.hide (hid cs1 ow1) S1).pu i = false
  is : ∀ (d : D) (v : Vl), Is (C.hide (hid cs ow) S) S d v → Is (C.hide (hid cs1 ow1) S1) S1 d v
theorem SEnd.trans {C : Wc} {cs cs1 cs2 : Nat → List Nat} {b b' : Nat} {S S1 S2 : Sto} {ow ow1 ow2 : List Nat} (a : SEnd C cs cs1 b' S S1 ow ow1) (c : SEnd C cs1 cs2 b S1 S2 ow1 ow2) : SEnd C cs cs2 b S S2 ow ow2 :=
  ⟨Nat.le_trans a.n c.n, c.p, fun i o g hp => let ⟨h1, h2⟩ := a.keep i o g hp; c.keep i o h1 h2, fun d v h => c.is d v (a.is d v h)⟩
theorem SEnd.refl {C : Wc} {cs : Nat → List Nat} {b : Nat} {S : Sto} {ow : List Nat} (p : PuOk C b S) : SEnd C cs cs b S S ow ow := ⟨Nat.le_refl _, p, fun _ _ g h => ⟨g, h⟩, fun _ _ h => h⟩
theorem SEnd.mono {C : Wc} {cs cs1 : Nat → List Nat} {b b' : Nat} {S S1 : Sto} {ow ow1 : List Nat} (a : SEnd C cs cs1 b S S1 ow ow1) (l : b ≤ b') : SEnd C cs cs1 b' S S1 ow ow1 := ⟨a.n, a.p.mono l, a.keep, a.is⟩
theorem EEnd.st {dm : List Nat} {C : Wc} {N : Nat} {cs : Nat → List Nat} {b : Nat} {S S1 : Sto} {ρ : MP.Env} {δ : PEnv} {ow ow1 : List Nat} (a : EEnd dm C N cs b S S1 ρ δ ow ow1) : SEnd C cs cs b S S1 ow ow1 :=
  ⟨a.n, a.p, fun i o g hp => ⟨a.keep i o g hp, by
    obtain ⟨p1, p2⟩ := pu_hide.mp hp
    exact pu_hide.mpr ⟨p1, Bool.eq_false_iff.mpr fun z => by rw [hid_sub a.s i z] at p2; cases p2⟩⟩, a.is⟩
theorem SEnd.trn {C : Wc} {cs cs1 : Nat → List Nat} {b : Nat} {S S1 : Sto} {ow ow1 : List Nat} (a : SEnd C cs cs1 b S S1 ow ow1) : Trn (C.hide (hid cs ow) S) S (C.hide (hid cs1 ow1) S1) S1 := ⟨fun i o g p => (a.keep i o g p).1, a.is⟩
section
variable {dm : List Nat} {C : Wc} {N : Nat} {cs : Nat → List Nat} {S : Sto} {ρ : MP.Env} {δ : PEnv} {ow : List Nat} {b : Nat}
/-- the cells of slot x are changed -/
theorem RO.upd (r : RO dm C N cs S ρ δ ow) (p : PuOk C b S) {x : Nat} (hx : x ∈ ow) {n : Nat} {vs : List Vl} {d : D} {v : Vl} (hn : n ∈ cs x) (hv : ρ[x]? = some (some v))
    (o : (∀ ys ws, IsL (C.hide (hid cs ow) S) S ys ws → IsL (C.hide (hid cs ow) (S.set n (.lst vs))) (S.set n (.lst vs)) ys ws) → OwnV (dm.contains x) (C.hide (hid cs ow) (S.set n (.lst vs))) (S.set n (.lst vs)) d v (cs x)) :
    RO dm C N cs (S.set n (.lst vs)) ρ (δ.set x (some d)) ow ∧ SEnd C cs cs b S (S.set n (.lst vs)) ow ow := by
  have hh : hid cs ow n = true := hid_iff.mpr ⟨x, hx, hn⟩
  have k : Kp (C.hide (hid cs ow) S) S (S.set n (.lst vs)) := Kp.setCell hh
  obtain ⟨d0, v0, h1, h2, o0, l0⟩ := r.own x hx
  have t : ∀ d v, Is (C.hide (hid cs ow) S) S d v → Is (C.hide (hid cs ow) (S.set n (.lst vs))) (S.set n (.lst vs)) d v := fun d v h => Is.hide_mono r.lst (fun _ z => z) d (Is.kp k d h)
  have tl : ∀ d v, IsL (C.hide (hid cs ow) S) S d v → IsL (C.hide (hid cs ow) (S.set n (.lst vs))) (S.set n (.lst vs)) d v := fun d v h => IsL.hide_mono r.lst (fun _ z => z) d (IsL.kp k d h)
  have xl : x < δ.length := by
    rcases Nat.lt_or_ge x δ.length with z | z
    · exact z
    · rw [List.getElem?_eq_none_iff.mpr z] at h2; cases h2
  have same : ∀ i, i ≠ n → (S.set n (.lst vs)).get i = S.get i := fun i hi => by rw [Sto.get_set, if_neg fun z => hi z.1.symm]
  refine ⟨⟨by rw [Sto.n_set]; exact r.n, r.c0, r.cN, r.inj, by rw [List.length_set]; exact r.len, fun j d hj e => ?_, fun j hj => ?_⟩, ⟨Nat.le_of_eq (Sto.n_set ..).symm, ⟨fun q hq => ?_, by rw [Sto.n_set]; exact p.2⟩, fun j o g hp => ⟨k.keep j o g hp, hp⟩, t⟩⟩
  · have jx : x ≠ j := fun z => hj (z ▸ hx)
    rw [List.getElem?_set, if_neg jx] at e
    obtain ⟨v, g1, g2⟩ := r.plain j d hj e
    exact ⟨v, g1, t d v g2⟩
  · by_cases c : x = j
    · subst c
      exact ⟨d, v, hv, by rw [List.getElem?_set, if_pos rfl, if_pos xl], o tl, l0⟩
    · obtain ⟨d1, v1, g1, g2, g3, g4⟩ := r.own j hj
      refine ⟨d1, v1, g1, by rw [List.getElem?_set, if_neg c]; exact g2, g3.move (fun i hi => same i fun z => ?_) tl, g4⟩
      subst z
      exact c (r.inj x hx j hj i hn hi)
  · refine (p.1 q hq).same (Nat.le_refl _) fun ws g => ?_
    have := r.cN q hq
    have := l0 n hn
    rw [same q (by omega)]
    exact g
/-- a flat slot's list is changed -/
theorem RO.upd1 (r : RO dm C N cs S ρ δ ow) (p : PuOk C b S) {x : Nat} (hx : x ∈ ow) (hd : dm.contains x = false) {n : Nat} {xs : List D} {vs : List Vl} (hn : cs x = [n]) (hv : ρ[x]? = some (some (.ref n))) (i : IsL (C.hide (hid cs ow) S) S xs vs) :
    RO dm C N cs (S.set n (.lst vs)) ρ (δ.set x (some (.lst true xs))) ow ∧ SEnd C cs cs b S (S.set n (.lst vs)) ow ow := by
  refine r.upd p hx (by rw [hn]; exact List.mem_cons_self) hv fun tl => ?_
  rw [hd]
  obtain ⟨us, g⟩ := r.lst n (hid_iff.mpr ⟨x, hx, by rw [hn]; exact List.mem_cons_self⟩)
  exact ⟨n, xs, vs, rfl, hn, rfl, by rw [Sto.get_set, if_pos ⟨rfl, Sto.get_lt g⟩], tl xs vs i⟩
/-- a deep slot's inner list is changed -/
theorem RO.upd2 (r : RO dm C N cs S ρ δ ow) (p : PuOk C b S) {x : Nat} (hx : x ∈ ow) (hd : dm.contains x = true) {n m k : Nat} {ns : List Nat} {yss : List (List D)} {ys : List D} {us : List Vl} (hn : cs x = n :: ns) (hv : ρ[x]? = some (some (.ref n)))
    (g : S.get n = some (.lst (ns.map Vl.ref))) (pr : Paired (InL (C.hide (hid cs ow) S) S) ns yss) (nd : (n :: ns).Nodup) (hk : ns[k]? = some m) (i : IsL (C.hide (hid cs ow) S) S ys us) :
    RO dm C N cs (S.set m (.lst us)) ρ (δ.set x (some (.lst true ((yss.set k ys).map (D.lst true))))) ow ∧ SEnd C cs cs b S (S.set m (.lst us)) ow ow := by
  have hm : m ∈ ns := List.mem_of_getElem? hk
  refine r.upd p hx (by rw [hn]; exact List.mem_cons_of_mem _ hm) hv fun tl => ?_
  rw [hd]
  have nm : n ≠ m := fun z => (List.nodup_cons.mp nd).1 (z ▸ hm)
  refine ⟨n, ns, yss.set k ys, rfl, hn, nd, rfl, by rw [Sto.get_set, if_neg fun z => nm z.1.symm]; exact g, ?_⟩
  obtain ⟨us0, g0⟩ := r.lst m (hid_iff.mpr ⟨x, hx, by rw [hn]; exact List.mem_cons_of_mem _ hm⟩)
  have ml := Sto.get_lt g0
  have nd2 := (List.nodup_cons.mp nd).2
  clear g nd hn hd
  have new : InL (C.hide (hid cs ow) (S.set m (.lst us))) (S.set m (.lst us)) m ys := ⟨us, by rw [Sto.get_set, if_pos ⟨rfl, ml⟩], tl ys us i⟩
  have other : ∀ {a : Nat} {zs : List D}, a ≠ m → InL (C.hide (hid cs ow) S) S a zs → InL (C.hide (hid cs ow) (S.set m (.lst us))) (S.set m (.lst us)) a zs := fun h ⟨vs, q1, q2⟩ => ⟨vs, by rw [Sto.get_set, if_neg fun z => h z.1.symm]; exact q1, tl _ _ q2⟩
  have all : ∀ {ns : List Nat} {yss : List (List D)} (k : Nat), Paired (InL (C.hide (hid cs ow) S) S) ns yss → ns.Nodup → ns[k]? = some m → Paired (InL (C.hide (hid cs ow) (S.set m (.lst us))) (S.set m (.lst us))) ns (yss.set k ys) := by
    intro ns yss k pr
    induction pr generalizing k with
    | nil => intro _ h; cases h
    | cons q t ih =>
      rename_i a zs l1 l2
      intro nd h
      obtain ⟨nd1, nd2⟩ := List.nodup_cons.mp nd
      cases k with
      | zero =>
        cases h
        exact .cons new (Paired.impM t fun c zs hc q => other (fun z => nd1 (z ▸ hc)) q)
      | succ k =>
        have h : l1[k]? = some m := h
        exact .cons (other (fun z => nd1 (z ▸ List.mem_of_getElem? h)) q) (ih k nd2 h)
  exact all k pr nd2 hk
/-- a slot is set to what is no cell -/
theorem RO.setV (r : RO dm C N cs S ρ δ ow) {d : D} {v : Vl} (x : Nat) (i : Is (C.hide (hid cs ow) S) S d v) : RO dm C N cs S (ρ.set x (some v)) (δ.set x (some d)) (dropO ow x) := by
  have s : ∀ j ∈ dropO ow x, j ∈ ow := keep_sub
  have nx : ∀ j ∈ dropO ow x, x ≠ j := fun j h z => by
    subst z
    have := (List.mem_filter.mp h).2
    rw [Nat.beq_refl] at this
    cases this
  have r1 := r.sub s
  refine ⟨r1.n, r1.c0, r1.cN, r1.inj, by rw [List.length_set, List.length_set]; exact r.len, fun j e hj q => ?_, fun j hj => ?_⟩
  · rw [List.getElem?_set] at q ⊢
    by_cases c : x = j
    · rw [if_pos c] at q ⊢
      by_cases c2 : x < δ.length
      · rw [if_pos c2] at q
        rw [if_pos (by rw [r.len]; exact c2)]
        cases q
        exact ⟨v, rfl, Is.hide_mono r.lst (hid_sub s) d i⟩
      · rw [if_neg c2] at q; cases q
    · rw [if_neg c] at q ⊢
      exact r1.plain j e hj q
  · obtain ⟨d1, v1, g1, g2, g3, g4⟩ := r1.own j hj
    exact ⟨d1, v1, by rw [List.getElem?_set, if_neg (nx j hj)]; exact g1, by rw [List.getElem?_set, if_neg (nx j hj)]; exact g2, g3, g4⟩
end
end MP
namespace MP
open PySem
theorem Kp.any {C : Wc} {h : Nat → Bool} {S S1 : Sto} {b : Nat} (a : ∀ i, h i = true → C.pu i = false) (l : LstAt S h) (k : Kp (C.hide h S) S S1) (p : PuOk (C.hide h S) b S1) (h' : Nat → Bool) (S0 : Sto) : Kp (C.hide h' S0) S S1 := by
  refine ⟨k.n, fun i o g hp => ?_⟩
  obtain ⟨p1, _⟩ := pu_hide.mp hp
  cases c : h i with
  | true =>
    rw [PuOk.cells l p c]
    exact g
  | false => exact k.keep i o g (pu_hide.mpr ⟨p1, c⟩)
theorem orN_iff {h : Nat → Bool} {n i : Nat} : orN h n i = true ↔ h i = true ∨ i = n := by
  unfold orN
  rw [Bool.or_eq_true, beq_iff_eq]
def csSet (cs : Nat → List Nat) (x : Nat) (c : List Nat) : Nat → List Nat := fun j => if j = x then c else cs j
theorem mem_drop {ow : List Nat} {x j : Nat} : j ∈ dropO ow x ↔ j ∈ ow ∧ j ≠ x := by
  unfold dropO
  rw [List.mem_filter]
  constructor
  · rintro ⟨h1, h2⟩
    refine ⟨h1, fun z => ?_⟩
    subst z
    rw [Nat.beq_refl] at h2
    cases h2
  · rintro ⟨h1, h2⟩
    refine ⟨h1, ?_⟩
    cases c : Nat.beq j x with
    | false => rfl
    | true => exact absurd (Nat.eq_of_beq_eq_true c) h2
theorem hid_new {cs : Nat → List Nat} {ow : List Nat} {x : Nat} {c : List Nat} {i : Nat} : hid (csSet cs x c) (x :: dropO ow x) i = true ↔ i ∈ c ∨ hid cs (dropO ow x) i = true := by
  rw [hid_iff, hid_iff]
  constructor
  · rintro ⟨j, h1, h2⟩
    rcases List.mem_cons.mp h1 with e | h1
    · subst e
      unfold csSet at h2
      rw [if_pos rfl] at h2
      exact .inl h2
    · have := (mem_drop.mp h1).2
      unfold csSet at h2
      rw [if_neg this] at h2
      exact .inr ⟨j, h1, h2⟩
  · rintro (e | ⟨j, h1, h2⟩)
    · refine ⟨x, List.mem_cons_self, ?_⟩
      unfold csSet
      rw [if_pos rfl]
      exact e
    · refine ⟨j, List.mem_cons_of_mem _ h1, ?_⟩
      unfold csSet
      rw [if_neg (mem_drop.mp h1).2]
      exact h2
mutual
/-- more cells, all of them new -/
theorem Is.addGe {C : Wc} {h h' : Nat → Bool} {S0 S1 S S' : Sto} (l : LstAt S0 h) (hn : ∀ i, h' i = true → h i = false → S'.n ≤ i ∧ C.pu i = false) (k : Kp (C.hide h S0) S' S) : ∀ (d : D) {v : Vl}, Is (C.hide h S0) S' d v → Is (C.hide h' S1) S d v
  | .non, v, k => k
  | .bl b, v, k => k
  | .int b, v, k => k
  | .str b, v, k => k
  | .lst t xs, v, ⟨m, vs, e, g, p, ht, hl⟩ => by
    obtain ⟨p1, p2⟩ := pu_hide.mp p
    have : m < S'.n := Sto.get_lt g
    exact ⟨m, vs, e, k.keep m _ g p, pu_hide.mpr ⟨p1, Bool.eq_false_iff.mpr fun z => by have := (hn m z p2).1; omega⟩, ht, IsL.addGe l hn k xs hl⟩
  | .tup xs, v, ⟨m, vs, e, g, p, hl⟩ => by
    obtain ⟨p1, p2⟩ := pu_hide.mp p
    have : m < S'.n := Sto.get_lt g
    exact ⟨m, vs, e, k.keep m _ g p, pu_hide.mpr ⟨p1, Bool.eq_false_iff.mpr fun z => by have := (hn m z p2).1; omega⟩, IsL.addGe l hn k xs hl⟩
  | .dct, v, ⟨m, e, g, p⟩ => by
    obtain ⟨p1, p2⟩ := pu_hide.mp p
    have : m < S'.n := Sto.get_lt g
    exact ⟨m, e, k.keep m _ g p, pu_hide.mpr ⟨p1, Bool.eq_false_iff.mpr fun z => by have := (hn m z p2).1; omega⟩⟩
  | .pur m, v, ⟨e, p, q⟩ => by
    have p' : (C.pu m || h m) = true := p
    cases c : h m with
    | true => exact absurd q (l.ce c)
    | false =>
      have q : (if h m = true then cont S0 m else C.ce m) = none := q
      rw [c] at p' q
      rw [Bool.or_false] at p'
      rw [if_neg (by decide)] at q
      have c1 : h' m = false := Bool.eq_false_iff.mpr fun z => by rw [(hn m z c).2] at p'; cases p'
      refine ⟨e, ?_, ?_⟩
      · show (C.pu m || h' m) = true
        rw [p']; rfl
      · show (if h' m = true then cont S1 m else C.ce m) = none
        rw [c1, if_neg (by decide)]
        exact q
theorem IsL.addGe {C : Wc} {h h' : Nat → Bool} {S0 S1 S S' : Sto} (l : LstAt S0 h) (hn : ∀ i, h' i = true → h i = false → S'.n ≤ i ∧ C.pu i = false) (k : Kp (C.hide h S0) S' S) : ∀ (ds : List D) {vs : List Vl}, IsL (C.hide h S0) S' ds vs → IsL (C.hide h' S1) S ds vs
  | [], vs, k => k
  | d :: ds, vs, ⟨v, r, e, h2, h3⟩ => ⟨v, r, e, Is.addGe l hn k d h2, IsL.addGe l hn k ds h3⟩
end
section
variable {dm : List Nat} {C : Wc} {N : Nat} {cs : Nat → List Nat} {S S1 : Sto} {ρ : MP.Env} {δ : PEnv} {ow ow1 : List Nat} {b : Nat}
/-- slot x comes to own the new cells c -/
theorem RO.own_new (r : RO dm C N cs S ρ δ ow) (kp : ∀ (h' : Nat → Bool) (S0 : Sto), Kp (C.hide h' S0) S S1) (p : PuOk C b S1) (s : ∀ j ∈ ow1, j ∈ ow) (r1 : RO dm C N cs S1 ρ δ ow1) {x : Nat} {d : D} {v : Vl} {c : List Nat} (hn : ∀ i ∈ c, S.n ≤ i) (hx : x < δ.length)
    (o : OwnV (dm.contains x) (C.hide (hid (csSet cs x c) (x :: dropO ow1 x)) S1) S1 d v c) :
    RO dm C N (csSet cs x c) S1 (ρ.set x (some v)) (δ.set x (some d)) (x :: dropO ow1 x) ∧ SEnd C cs (csSet cs x c) b S S1 ow (x :: dropO ow1 x) := by
  have sd1 : ∀ j ∈ dropO ow1 x, j ∈ ow1 := fun j h => (mem_drop.mp h).1
  have sd : ∀ j ∈ dropO ow1 x, j ∈ ow := fun j h => s j (sd1 j h)
  have r0 := r.sub sd
  have pc : ∀ i ∈ c, C.pu i = false := fun i hi => by
    cases q : C.pu i with
    | false => rfl
    | true =>
      have := r.cN i q
      have := hn i hi
      have := r.n
      omega
  have cond : ∀ i, hid (csSet cs x c) (x :: dropO ow1 x) i = true → hid cs (dropO ow1 x) i = false → S.n ≤ i ∧ C.pu i = false := fun i h1 h2 => by
    rcases hid_new.mp h1 with h | h
    · exact ⟨hn i h, pc i h⟩
    · rw [h] at h2; cases h2
  have old : ∀ d v, Is (C.hide (hid cs (dropO ow1 x)) S) S d v → Is (C.hide (hid (csSet cs x c) (x :: dropO ow1 x)) S1) S1 d v := fun d v h => Is.addGe r0.lst cond (kp _ _) d h
  have oldL : ∀ d v, IsL (C.hide (hid cs (dropO ow1 x)) S) S d v → IsL (C.hide (hid (csSet cs x c) (x :: dropO ow1 x)) S1) S1 d v := fun d v h => IsL.addGe r0.lst cond (kp _ _) d h
  have lt : ∀ j ∈ dropO ow1 x, ∀ i ∈ cs j, i < S.n := fun j hj i hi => by
    obtain ⟨_, _, _, _, o3, _⟩ := r0.own j hj
    obtain ⟨_, g⟩ := o3.held hi
    exact Sto.get_lt g
  have nx : ∀ j, j ≠ x → csSet cs x c j = cs j := fun j h => if_neg h
  have xx : csSet cs x c x = c := if_pos rfl
  have keep : ∀ i o, S.get i = some o → C.pu i = false → S1.get i = some o := fun i o g hp => (kp (fun _ => false) S).keep i o g (pu_hide.mpr ⟨hp, rfl⟩)
  refine ⟨⟨r1.n, r1.c0, r1.cN, fun j hj k hk i h1 h2 => ?_, by rw [List.length_set, List.length_set]; exact r1.len, fun j d hj e => ?_, fun j hj => ?_⟩, ⟨(kp (fun _ => false) S).n, p, fun j o gj hp => ?_, fun d v h => ?_⟩⟩
  · rcases List.mem_cons.mp hj with e1 | hj
    · rcases List.mem_cons.mp hk with e2 | hk
      · rw [e1, e2]
      · rw [e1, xx] at h1
        rw [nx k (mem_drop.mp hk).2] at h2
        have := lt k hk i h2
        have := hn i h1
        omega
    · rcases List.mem_cons.mp hk with e2 | hk
      · rw [e2, xx] at h2
        rw [nx j (mem_drop.mp hj).2] at h1
        have := lt j hj i h1
        have := hn i h2
        omega
      · rw [nx j (mem_drop.mp hj).2] at h1
        rw [nx k (mem_drop.mp hk).2] at h2
        exact r0.inj j hj k hk i h1 h2
  · have jx : x ≠ j := fun z => hj (z ▸ List.mem_cons_self)
    rw [List.getElem?_set, if_neg jx] at e
    rw [List.getElem?_set, if_neg jx]
    have hj' : j ∉ dropO ow1 x := fun z => hj (List.mem_cons_of_mem _ z)
    obtain ⟨v, g1, g2⟩ := r0.plain j d hj' e
    exact ⟨v, g1, old d v g2⟩
  · rcases List.mem_cons.mp hj with e1 | hj
    · subst e1
      rw [xx]
      exact ⟨d, v, by rw [List.getElem?_set, if_pos rfl, if_pos (by rw [r.len]; exact hx)], by rw [List.getElem?_set, if_pos rfl, if_pos hx], o, fun i hi => Nat.le_trans r.n (hn i hi)⟩
    · have jx : j ≠ x := (mem_drop.mp hj).2
      obtain ⟨d1, v1, g1, g2, g3, g4⟩ := r0.own j hj
      rw [nx j jx]
      refine ⟨d1, v1, by rw [List.getElem?_set, if_neg fun z => jx z.symm]; exact g1, by rw [List.getElem?_set, if_neg fun z => jx z.symm]; exact g2, g3.move (fun i hi => ?_) oldL, g4⟩
      obtain ⟨vs, g⟩ := g3.held hi
      rw [keep i _ g (r.apart _ (hid_iff.mpr ⟨j, sd j hj, hi⟩)), g]
  · obtain ⟨p1, p2⟩ := pu_hide.mp hp
    refine ⟨keep j o gj p1, pu_hide.mpr ⟨p1, Bool.eq_false_iff.mpr fun q => ?_⟩⟩
    rcases hid_new.mp q with h | h
    · have := Sto.get_lt gj
      have := hn j h
      omega
    · rw [hid_sub sd j h] at p2
      cases p2
  · exact old d v (Is.hide_mono r.lst (hid_sub sd) d h)
/-- .. a flat list -/
theorem RO.own1 (r1 : RO dm C N cs S1 ρ δ ow1) {x n : Nat} {xs : List D} (i : Is (C.hide (hid cs ow1) S1) S1 (.lst true xs) (.ref n)) : OwnV false (C.hide (hid (csSet cs x [n]) (x :: dropO ow1 x)) S1) S1 (.lst true xs) (.ref n) [n] := by
  have sd1 : ∀ j ∈ dropO ow1 x, j ∈ ow1 := fun j h => (mem_drop.mp h).1
  have r2 := r1.sub sd1
  have i2 : Is (C.hide (hid cs (dropO ow1 x)) S1) S1 (.lst true xs) (.ref n) := Is.hide_mono r1.lst (hid_sub sd1) _ i
  obtain ⟨m, vs, em, g, pn, ht, hl⟩ := i2
  cases em
  have i2 : Is (C.hide (hid cs (dropO ow1 x)) S1) S1 (.lst true xs) (.ref n) := ⟨n, vs, rfl, g, pn, ht, hl⟩
  have la : LstAt S1 (orN (hid cs (dropO ow1 x)) n) := fun j hj => by
    rcases orN_iff.mp hj with h | h
    · exact r2.lst j h
    · rw [h]; exact ⟨vs, g⟩
  refine ⟨n, xs, vs, rfl, rfl, rfl, g, IsL.hide_mono la (fun j hj => ?_) xs (IsL.addSz (S1 := S1) r2.lst i2 pn xs (show D.szL xs < D.szL xs + 1 by omega) hl)⟩
  rcases hid_new.mp hj with h | h
  · exact orN_iff.mpr (.inr (List.mem_singleton.mp h))
  · exact orN_iff.mpr (.inl h)
theorem SEnd.sub {cs1 : Nat → List Nat} {ow2 : List Nat} (e : SEnd C cs cs1 b S S1 ow ow1) (l : LstAt S1 (hid cs1 ow1)) (s : ∀ j ∈ ow2, j ∈ ow1) : SEnd C cs cs1 b S S1 ow ow2 :=
  ⟨e.n, e.p, fun i o g hp => let ⟨h1, h2⟩ := e.keep i o g hp; ⟨h1, by
    obtain ⟨p1, p2⟩ := pu_hide.mp h2
    exact pu_hide.mpr ⟨p1, Bool.eq_false_iff.mpr fun z => by rw [hid_sub s i z] at p2; cases p2⟩⟩, fun d v h => Is.hide_mono l (hid_sub s) d (e.is d v h)⟩
end
theorem SEnd.isL {C : Wc} {cs cs1 : Nat → List Nat} {b : Nat} {S S1 : Sto} {ow ow1 : List Nat} (a : SEnd C cs cs1 b S S1 ow ow1) : ∀ (ds : List D) {vs : List Vl}, IsL (C.hide (hid cs ow) S) S ds vs → IsL (C.hide (hid cs1 ow1) S1) S1 ds vs
  | [], vs, h => h
  | d :: ds, vs, ⟨v, r, e, h1, h2⟩ => ⟨v, r, e, a.is d v h1, a.isL ds h2⟩
/-- a target's or a statement's going on -/
def OkG (dm : List Nat) (C : Wc) (N : Nat) (cs : Nat → List Nat) (b : Nat) (S : Sto) (ow : List Nat) (r : R MP.Env) (Q : PEnv → List Nat → Prop) : Prop :=
  ∃ ρ1 S1 cs1 ow1 δ1, r = .ok ρ1 S1 ∧ SEnd C cs cs1 b S S1 ow ow1 ∧ RO dm C N cs1 S1 ρ1 δ1 ow1 ∧ Q δ1 ow1
theorem OkG.mono {dm : List Nat} {C : Wc} {N : Nat} {cs : Nat → List Nat} {b b' : Nat} {S : Sto} {ow : List Nat} {r : R MP.Env} {Q : PEnv → List Nat → Prop} (h : OkG dm C N cs b S ow r Q) (l : b ≤ b') : OkG dm C N cs b' S ow r Q := by
  obtain ⟨ρ1, S1, nm1, ow1, δ1, h1, h2, h3, h4⟩ := h
  exact ⟨ρ1, S1, nm1, ow1, δ1, h1, h2.mono l, h3, h4⟩
/-- reading an inner list of a deep slot -/
theorem RO.inner {dm : List Nat} {C : Wc} {N : Nat} {cs : Nat → List Nat} {S : Sto} {ρ : MP.Env} {δ : PEnv} {ow : List Nat} (r : RO dm C N cs S ρ δ ow) {x : Nat} (hx : x ∈ ow) (hd : dm.contains x = true) {t : Bool} {xs zs : List D} {k : Int} {n : Nat}
    (g1 : δ[x]? = some (some (.lst t xs))) (a1 : ixI xs.length k = some n) (a2 : xs[n]? = some (.lst true zs)) :
    ∃ (n0 m : Nat) (ns : List Nat) (yss : List (List D)) (us : List Vl), cs x = n0 :: ns ∧ (n0 :: ns).Nodup ∧ ρ[x]? = some (some (.ref n0)) ∧ S.get n0 = some (.lst (ns.map Vl.ref)) ∧ Paired (InL (C.hide (hid cs ow) S) S) ns yss ∧ xs = yss.map (D.lst true) ∧ ns[n]? = some m ∧ S.get m = some (.lst us) ∧ IsL (C.hide (hid cs ow) S) S zs us ∧
      subS (.ref n0) (.int k) S = .ok (.ref m) S := by
  obtain ⟨n0, ns, yss, h0, h1, nd, h2, h3, h4, h5⟩ := r.deep hx hd
  rw [g1] at h3
  have h3 : (D.lst t xs) = .lst true (yss.map (D.lst true)) := by
    have := Option.some.inj h3
    exact Option.some.inj this
  cases h3
  have hlen : (ns.map Vl.ref).length = (yss.map (D.lst true)).length := by rw [List.length_map, List.length_map]; exact Paired.len h5
  rw [List.getElem?_map] at a2
  cases q : yss[n]? with
  | none => rw [q] at a2; cases a2
  | some ys =>
    rw [q] at a2
    cases a2
    cases q2 : ns[n]? with
    | none =>
      have := Paired.at0 h5 q2
      rw [q] at this
      cases this
    | some m =>
      obtain ⟨ys', e1, us, e2, e3⟩ := Paired.at1 h5 q2
      rw [q] at e1
      cases e1
      refine ⟨n0, m, ns, yss, us, h1, nd, h2, h4, h5, rfl, q2, e2, e3, ?_⟩
      rw [← hlen] at a1
      simp only [subS, h4, a1, Option.bind_some, List.getElem?_map, q2, Option.map_some]
section
variable {wc : WCl} {dm : List Nat} {kf : Nat → Nat} {cl : Nat → List Vl → Sto → R Vl} (hc : ∀ C, Snd C wc kf cl)
include hc
omit hc in
theorem map_set {α β : Type} (f : α → β) : ∀ (l : List α) (k : Nat) (a : α), (l.set k a).map f = (l.map f).set k (f a)
  | [], _, _ => rfl
  | _ :: _, 0, _ => rfl
  | x :: l, k + 1, a => by rw [List.set_cons_succ, List.map_cons, map_set f l k a, List.map_cons, List.set_cons_succ]
theorem woG_deep {x : Nat} {i j : E} {d : D} {v : Vl} {C : Wc} {N : Nat} {cs : Nat → List Nat} {δ : PEnv} {ρ : MP.Env} {S : Sto} {b : Nat} {ow : List Nat} {Q : PEnv → List Nat → Prop}
    (w : ow.contains x = true ∧ dm.contains x = true ∧ wO1 wc i δ ow fun y ow0 => wO1 wc j δ ow0 fun z ow1 => ow1.contains x = true ∧ ∃ t xs k n zs l m, δ[x]? = some (some (.lst t xs)) ∧ y = .int k ∧ ixI xs.length k = some n ∧ xs[n]? = some (.lst true zs) ∧ z = .int l ∧ ixI zs.length l = some m ∧ Q (δ.set x (some (.lst true (xs.set n (.lst true (zs.set m d)))))) ow1)
    (r : RO dm C N cs S ρ δ ow) (is : Is (C.hide (hid cs ow) S) S d v) (p : PuOk C b S) (hb : b + (0 + cE kf i + cE kf j) ≤ BIG) : OkG dm C N cs (b + (0 + cE kf i + cE kf j)) S ow (asn cl (.sub (.sub (.var x) i) j) v ρ S) Q := by
  obtain ⟨c0, cd, w⟩ := w
  obtain ⟨u0, S0, y, ow0, e0, n0', i0, w⟩ := wO1_ok hc i w r p (by omega)
  obtain ⟨u1, S1, z, ow1, e1, n1, i1, c1, t, xs, k, n, zs, l, m, g1, rfl, a1, a2, rfl, a3, q⟩ := wO1_ok hc j w n0'.r n0'.p (by omega)
  cases i0
  cases i1
  have hx1 := contains_mem c1
  have hx0 : x ∈ ow0 := n1.s x hx1
  -- when x[i] was read
  obtain ⟨a0, m0, ns, yss, us, q1, nd, q2, q3, q4, q5, q6, q7, q8, q9⟩ := n0'.r.inner hx0 cd g1 a1 a2
  obtain ⟨a0', m0', ns', yss', us', q1', nd', q2', q3', q4', q5', q6', q7', q8', q9'⟩ := n1.r.inner hx1 cd g1 a1 a2
  rw [q1] at q1'
  cases q1'
  rw [q6] at q6'
  cases q6'
  obtain ⟨r2, s2⟩ := n1.r.upd2 (us := us'.set m v) (ys := zs.set m d) n1.p hx1 cd q1 q2' q3' q4' nd' q6 (isL_iff.mpr (Paired.set1 (F := fun v d => Is (C.hide (hid cs ow1) S1) S1 d v) ((n0'.trans n1).is d v is) m (isL_iff.mp q8')))
  refine ⟨ρ, S1.set m0 (.lst (us'.set m v)), cs, ow1, _, ?_, (((n0'.trans n1).st).trans s2).mono (by omega), r2, ?_⟩
  · have hv : ev cl (.var x) ρ S = .ok (.ref a0) S := by
      unfold ev
      rw [q2]
    show (((ev cl (.var x) ρ S).bind fun x S1 => (ev cl i ρ S1).bind fun y S2 => subS x y S2).bind fun x S1 => (ev cl j ρ S1).bind fun y S2 => (setS x y v S2).bind fun _ S3 => R.ok ρ S3) = _
    rw [hv]
    show (((ev cl i ρ S).bind fun y S2 => subS (.ref a0) y S2).bind fun x S1 => (ev cl j ρ S1).bind fun y S2 => (setS x y v S2).bind fun _ S3 => R.ok ρ S3) = _
    rw [e0]
    show ((subS (.ref a0) (.int k) S0).bind fun x S1 => (ev cl j ρ S1).bind fun y S2 => (setS x y v S2).bind fun _ S3 => R.ok ρ S3) = _
    rw [q9]
    show ((ev cl j ρ S0).bind fun y S2 => (setS (.ref m0) y v S2).bind fun _ S3 => R.ok ρ S3) = _
    rw [e1]
    show ((setS (.ref m0) (.int l) v S1).bind fun _ S3 => R.ok ρ S3) = _
    rw [← IsL.len q8'] at a3
    simp only [setS, q7', a3]
    rfl
  · rw [map_set]
    rw [q5'] at q
    exact q
mutual
theorem woG_ok : ∀ (t : Tg) {d : D} {v : Vl} {C : Wc} {N : Nat} {cs : Nat → List Nat} {δ : PEnv} {ρ : MP.Env} {S : Sto} {b : Nat} {ow : List Nat} {Q : PEnv → List Nat → Prop}, woG wc dm t d δ ow Q → RO dm C N cs S ρ δ ow → Is (C.hide (hid cs ow) S) S d v → PuOk C b S → b + cG kf t ≤ BIG →
    OkG dm C N cs (b + cG kf t) S ow (asn cl t v ρ S) Q
  | .name i, d, v, C, N, cs, δ, ρ, S, b, ow, Q, w, r, is, p, hb => by
    have s : ∀ j ∈ dropO ow i, j ∈ ow := keep_sub
    exact ⟨_, S, cs, dropO ow i, _, rfl, (SEnd.refl (p.mono (Nat.le_add_right _ _))).sub r.lst s, r.setV i is, w⟩
  | .tup ts, d, v, C, N, cs, δ, ρ, S, b, ow, Q, ⟨xs, e, hl, w⟩, r, is, p, hb => by
    obtain ⟨vs, h1, h2⟩ := is.seq e
    show OkG dm C N cs (b + cGs kf ts) S ow (match seqOf S v with | some vs => if Nat.beq vs.length ts.len then asns cl ts vs ρ S else .bad | none => .bad) Q
    rw [h1]
    dsimp only
    rw [if_pos (by rw [IsL.len h2, hl]; simp)]
    exact woGs_ok ts w r h2 p hb
  | .sub o i, d, v, C, N, cs, δ, ρ, S, b, ow, Q, w, r, is, p, hb => by
    have nope : woG wc dm (.sub o i) d δ ow Q → OkG dm C N cs (b + cG kf (.sub o i)) S ow (asn cl (.sub o i) v ρ S) Q := fun w => by
      cases o with
      | var x =>
        have hb : b + (0 + cE kf i) ≤ BIG := hb
        have w : dm.contains x = false ∧ wO1 wc i δ ow fun y ow1 => ow1.contains x = true ∧ ∃ t xs k n, δ[x]? = some (some (.lst t xs)) ∧ y = .int k ∧ ixI xs.length k = some n ∧ Q (δ.set x (some (.lst true (xs.set n d)))) ow1 := w
        obtain ⟨cd, w⟩ := w
        obtain ⟨u, S1, y, ow1, e1, n1, i1, c1, t, xs, k, n, g1, rfl, at1, q⟩ := wO1_ok hc i w r p (by omega)
        cases i1
        have hx := contains_mem c1
        obtain ⟨m, xs', vs, h0, h1, h2, h3, h4, h5⟩ := n1.r.flat hx cd
        rw [g1] at h3
        cases h3
        have is1 := n1.is d v is
        obtain ⟨r2, s2⟩ := n1.r.upd1 n1.p hx cd h1 h2 (isL_iff.mpr (Paired.set1 (F := fun v d => Is (C.hide (hid cs ow1) S1) S1 d v) is1 n (isL_iff.mp h5)))
        refine ⟨ρ, S1.set m (.lst (vs.set n v)), cs, ow1, _, ?_, (n1.st.trans s2).mono (by show b + cE kf i ≤ b + (0 + cE kf i); omega), r2, q⟩
        have hv : ev cl (.var x) ρ S = .ok (.ref m) S := by
          unfold ev
          rw [h2]
        show ((ev cl (.var x) ρ S).bind fun x S1 => (ev cl i ρ S1).bind fun y S2 => (setS x y v S2).bind fun _ S3 => R.ok ρ S3) = _
        rw [hv]
        show ((ev cl i ρ S).bind fun y S2 => (setS (.ref m) y v S2).bind fun _ S3 => R.ok ρ S3) = _
        rw [e1]
        show ((setS (.ref m) (.int k) v S1).bind fun _ S3 => R.ok ρ S3) = _
        rw [← IsL.len h5] at at1
        simp only [setS, h4, at1]
        rfl
      | sub o2 j => cases o2 with
        | var x => exact woG_deep hc w r is p hb
        | _ => exact False.elim w
      | _ => exact False.elim w
    exact nope w
termination_by structural x => x
theorem woGs_ok : ∀ (t : Tgs) {ds : List D} {vs : List Vl} {C : Wc} {N : Nat} {cs : Nat → List Nat} {δ : PEnv} {ρ : MP.Env} {S : Sto} {b : Nat} {ow : List Nat} {Q : PEnv → List Nat → Prop}, woGs wc dm t ds δ ow Q → RO dm C N cs S ρ δ ow → IsL (C.hide (hid cs ow) S) S ds vs → PuOk C b S → b + cGs kf t ≤ BIG →
    OkG dm C N cs (b + cGs kf t) S ow (asns cl t vs ρ S) Q
  | .nil, [], vs, C, N, cs, δ, ρ, S, b, ow, Q, w, r, is, p, hb => by
    cases (show vs = [] from is)
    exact ⟨ρ, S, cs, ow, δ, rfl, SEnd.refl (p.mono (Nat.le_add_right _ _)), r, w⟩
  | .nil, _ :: _, vs, C, N, cs, δ, ρ, S, b, ow, Q, w, r, is, p, hb => False.elim w
  | .cons t ts, [], vs, C, N, cs, δ, ρ, S, b, ow, Q, w, r, is, p, hb => False.elim w
  | .cons t ts, d :: ds, vs, C, N, cs, δ, ρ, S, b, ow, Q, w, r, ⟨v, rs, ev, h1, h2⟩, p, hb => by
    subst ev
    have hb : b + (cG kf t + cGs kf ts) ≤ BIG := hb
    obtain ⟨ρ1, S1, nm1, ow1, δ1, e1, s1, r1, q1⟩ := woG_ok t w r h1 p (by omega)
    obtain ⟨ρ2, S2, nm2, ow2, δ2, e2, s2, r2, q2⟩ := woGs_ok ts q1 r1 (s1.isL ds h2) s1.p (by omega)
    refine ⟨ρ2, S2, nm2, ow2, δ2, ?_, (s1.trans s2).mono (by show b + cG kf t + cGs kf ts ≤ b + (cG kf t + cGs kf ts); omega), r2, q2⟩
    show ((asn cl t v ρ S).bind fun ρ1 S1 => asns cl ts rs ρ1 S1) = _
    rw [e1]
    exact e2
termination_by structural x => x
end
end
end MP
namespace MP
open PySem
def OkN (dm : List Nat) (C : Wc) (N : Nat) (cs : Nat → List Nat) (b : Nat) (S : Sto) (ow : List Nat) (r : XS) (Q : PEnv → List Nat → Prop) : Prop :=
  ∃ ρ1 S1 cs1 ow1 δ1, r = .fl (.nx ρ1) S1 ∧ SEnd C cs cs1 b S S1 ow ow1 ∧ RO dm C N cs1 S1 ρ1 δ1 ow1 ∧ Q δ1 ow1
section
variable {wc : WCl} {dm : List Nat} {kf : Nat → Nat} {cl : Nat → List Vl → Sto → R Vl} (hc : ∀ C, Snd C wc kf cl)
include hc
theorem wOwn_ok (x : Nat) (e : E) (fr : freshE e = true) (cd : dm.contains x = false) {C : Wc} {N : Nat} {cs : Nat → List Nat} {δ : PEnv} {ρ : MP.Env} {S : Sto} {b : Nat} {ow : List Nat} {Q : PEnv → List Nat → Prop} (w : wOwn wc x e δ ow Q) (r : RO dm C N cs S ρ δ ow) (p : PuOk C b S) (hb : b + cE kf e ≤ BIG) :
    ∃ v S1 cs1 ow1 δ1, ev cl e ρ S = .ok v S1 ∧ SEnd C cs cs1 (b + cE kf e) S S1 ow ow1 ∧ RO dm C N cs1 S1 (ρ.set x (some v)) δ1 ow1 ∧ Q δ1 ow1 := by
  obtain ⟨hx, w⟩ := w
  have w1 : wO1 wc e δ ow (fun d ow1 => ∃ xs, d = .lst true xs ∧ Q (δ.set x (some d)) (x :: dropO ow1 x)) := by
    unfold wO1
    rw [fr]
    exact w
  have r1 := r.sub (ow1 := keepE e ow) keep_sub
  obtain ⟨v', S1', d', e1', k1, p1, _, _⟩ := sE (hc _) e w r1.env (p.hide r1.lst) hb
  have nw := fresh_ok (hc _) e fr w r1.env (p.hide r1.lst) hb
  obtain ⟨v, S1, d, ow1, e1, n1, i1, xs, rfl, q⟩ := wO1_ok hc e w1 r p hb
  rw [e1] at e1'
  cases e1'
  obtain ⟨n, vs, ev', g, pn, ht, hl⟩ := i1
  subst ev'
  have o := RO.own1 (x := x) n1.r ⟨n, vs, rfl, g, pn, ht, hl⟩
  rw [← cd] at o
  obtain ⟨r2, s2⟩ := r.own_new (Kp.any r1.apart r1.lst k1 p1) n1.p n1.s n1.r (fun i hi => by rw [List.mem_singleton.mp hi]; exact nw _ _ e1 n rfl) hx o
  exact ⟨.ref n, _, _, _, _, e1, s2, r2, q⟩
theorem flatL {C C1 : Wc} {S S1 : Sto} : ∀ {ds : List D} {vs : List Vl}, D.allFlat ds = true → IsL C S ds vs → IsL C1 S1 ds vs
  | [], vs, _, h => h
  | d :: ds, vs, f, ⟨v, r, e, h1, h2⟩ => by
    obtain ⟨f1, f2⟩ := and2 f
    refine ⟨v, r, e, ?_, flatL f2 h2⟩
    cases d <;> first | (cases f1; done) | exact h1
theorem wOwnD_ok (x : Nat) (e : E) (fr : deepE e = true) (cd : dm.contains x = true) {C : Wc} {N : Nat} {cs : Nat → List Nat} {δ : PEnv} {ρ : MP.Env} {S : Sto} {b : Nat} {ow : List Nat} {Q : PEnv → List Nat → Prop} (w : wOwnD wc x e δ ow Q) (r : RO dm C N cs S ρ δ ow) (p : PuOk C b S) (hb : b + cE kf e ≤ BIG) :
    ∃ v S1 cs1 ow1 δ1, ev cl e ρ S = .ok v S1 ∧ SEnd C cs cs1 (b + cE kf e) S S1 ow ow1 ∧ RO dm C N cs1 S1 (ρ.set x (some v)) δ1 ow1 ∧ Q δ1 ow1 := by
  obtain ⟨hx, w⟩ := w
  have s : ∀ j ∈ keepE e ow, j ∈ ow := keep_sub
  have r1 := r.sub s
  obtain ⟨v, S1, d, e1, k1, p1, i1, yss, rfl, fl, q⟩ := sE (hc _) e w r1.env (p.hide r1.lst) hb
  obtain ⟨n, ws, em, g2, inc⟩ := deep_ok (hc _) e fr w r1.env (p.hide r1.lst) hb v S1 e1
  obtain ⟨m, vs, ev', g, pn, ht, hl⟩ := i1
  subst em
  have em := Vl.ref.inj ev'
  subst em
  rw [g] at g2
  cases g2
  obtain ⟨r2, t2⟩ := r.run s k1 p1
  -- the inner lists
  have all : ∀ {yss : List (List D)} {vs : List Vl}, IsL (C.hide (hid cs (keepE e ow)) S) S1 (yss.map (D.lst true)) vs → ∃ ns : List Nat, vs = ns.map Vl.ref ∧ Paired (fun a ys => ∃ us, S1.get a = some (.lst us) ∧ IsL (C.hide (hid cs (keepE e ow)) S) S1 ys us) ns yss := by
    intro yss
    induction yss with
    | nil => intro vs h; cases (show vs = [] from h); exact ⟨[], rfl, .nil⟩
    | cons ys yss ih =>
      rintro vs ⟨v, r, ev, ⟨a, us, e2, g3, _, _, il⟩, h2⟩
      subst e2
      subst ev
      obtain ⟨ns, h3, h4⟩ := ih h2
      exact ⟨a :: ns, by rw [h3]; rfl, .cons ⟨us, g3, il⟩ h4⟩
  obtain ⟨ns, rfl, pr⟩ := all hl
  obtain ⟨h1, h2⟩ := inc.refs
  have nd : (n :: ns).Nodup := List.nodup_cons.mpr ⟨fun z => by have := (h2 n z).2; omega, h1⟩
  have cn : ∀ i ∈ n :: ns, S.n ≤ i := fun i hi => by
    rcases List.mem_cons.mp hi with z | z
    · rw [z]; exact inc.le
    · exact (h2 i z).1
  have o : OwnV (dm.contains x) (C.hide (hid (csSet cs x (n :: ns)) (x :: dropO (keepE e ow) x)) S1) S1 (.lst true (yss.map (D.lst true))) (.ref n) (n :: ns) := by
    rw [cd]
    refine ⟨n, ns, yss, rfl, rfl, nd, rfl, g, ?_⟩
    have go : ∀ {ns : List Nat} {yss : List (List D)}, (∀ ys ∈ yss, D.allFlat ys = true) → Paired (fun a ys => ∃ us, S1.get a = some (.lst us) ∧ IsL (C.hide (hid cs (keepE e ow)) S) S1 ys us) ns yss → Paired (InL (C.hide (hid (csSet cs x (n :: ns)) (x :: dropO (keepE e ow) x)) S1) S1) ns yss → True := fun _ _ _ => trivial
    clear go
    have go : ∀ (C1 : Wc) {ns : List Nat} {yss : List (List D)}, Paired (fun a ys => ∃ us, S1.get a = some (.lst us) ∧ IsL (C.hide (hid cs (keepE e ow)) S) S1 ys us) ns yss → (∀ ys ∈ yss, D.allFlat ys = true) → Paired (InL C1 S1) ns yss := by
      intro C1 ns yss pr
      induction pr with
      | nil => exact fun _ => .nil
      | cons q t ih =>
        intro f
        obtain ⟨us, g3, il⟩ := q
        exact .cons ⟨us, g3, flatL hc (f _ List.mem_cons_self) il⟩ (ih fun ys h => f ys (List.mem_cons_of_mem _ h))
    exact go _ pr fl
  obtain ⟨r3, s3⟩ := r.own_new (Kp.any r1.apart r1.lst k1 p1) (p1.unhide r1.apart) s (r2.sub s) cn hx o
  exact ⟨.ref n, _, _, _, _, e1, s3, r3, q⟩
theorem woPop_ok {x : Nat} {C : Wc} {N : Nat} {cs : Nat → List Nat} {δ : PEnv} {ρ : MP.Env} {S : Sto} {b : Nat} {ow : List Nat} {Q : D → PEnv → List Nat → Prop} (w : woPop dm x δ ow Q) (r : RO dm C N cs S ρ δ ow) (p : PuOk C b S) :
    ∃ v S1 d δ1, ev cl (.mt .pop0 (.var x) .nil) ρ S = .ok v S1 ∧ SEnd C cs cs b S S1 ow ow ∧ RO dm C N cs S1 ρ δ1 ow ∧ Is (C.hide (hid cs ow) S1) S1 d v ∧ Q d δ1 ow := by
  obtain ⟨c1, cd, t, xs, d, g1, at1, q⟩ := w
  have hx := contains_mem c1
  obtain ⟨n, xs', vs, h0, h1, h2, h3, h4, h5⟩ := r.flat hx cd
  rw [g1] at h3
  cases h3
  obtain ⟨v, g2, i2⟩ := h5.at1 at1
  obtain ⟨r2, s2⟩ := r.upd1 p hx cd h1 h2 (isL_iff.mpr (Paired.dl (isL_iff.mp h5)))
  refine ⟨v, S.set n (.lst vs.dropLast), d, _, ?_, s2, r2, s2.is d v i2, q⟩
  have hv : ev cl (.var x) ρ S = .ok (.ref n) S := by
    unfold ev
    rw [h2]
  show ((ev cl (.var x) ρ S).bind fun x S1 => if mtTy .pop0 S1 x then (evs cl .nil ρ S1).bind fun vs S2 => mtS .pop0 x vs S2 else .bad) = _
  rw [hv]
  show (if mtTy .pop0 S (.ref n) then mtS .pop0 (.ref n) [] S else .bad) = _
  rw [if_pos (by simp only [mtTy, lstOf, h4]; rfl)]
  rw [← IsL.len h5] at g2
  simp only [mtS, h4, g2]
theorem woX_ok (e : E) {C : Wc} {N : Nat} {cs : Nat → List Nat} {δ : PEnv} {ρ : MP.Env} {S : Sto} {b : Nat} {ow : List Nat} {Q : PEnv → List Nat → Prop} (w : woX wc dm e δ ow Q) (r : RO dm C N cs S ρ δ ow) (p : PuOk C b S) (hb : b + cE kf e ≤ BIG) :
    ∃ v S1 δ1 ow1, ev cl e ρ S = .ok v S1 ∧ SEnd C cs cs (b + cE kf e) S S1 ow ow1 ∧ RO dm C N cs S1 ρ δ1 ow1 ∧ Q δ1 ow1 := by
  unfold woX at w
  split at w
  · rename_i x a
    have hb : b + (0 + (cE kf a + 0)) ≤ BIG := hb
    obtain ⟨c0, cd, w⟩ := w
    obtain ⟨u, S1, d, ow1, e1, n1, i1, c1, t, xs, g1, hl, q⟩ := woE_ok hc a w r p (by omega)
    have hx := contains_mem c1
    obtain ⟨n, xs', vs, h0, h1, h2, h3, h4, h5⟩ := n1.r.flat hx cd
    rw [g1] at h3
    cases h3
    obtain ⟨r2, s2⟩ := n1.r.upd1 n1.p hx cd h1 h2 (h5.app (show IsL _ _ [d] [u] from ⟨u, [], rfl, i1, rfl⟩))
    refine ⟨.non, S1.set n (.lst (vs ++ [u])), _, ow1, ?_, (n1.st.trans s2).mono (by show b + cE kf a ≤ b + (0 + (cE kf a + 0)); omega), r2, q⟩
    have hv : ev cl (.var x) ρ S = .ok (.ref n) S := by
      unfold ev
      rw [h2]
    obtain ⟨n', _, vs0, _, k1, k2, _, k4, _⟩ := r.flat (contains_mem c0) cd
    rw [h2] at k2
    cases k2
    show ((ev cl (.var x) ρ S).bind fun x S1 => if mtTy .append S1 x then (evs cl (.cons a .nil) ρ S1).bind fun vs S2 => mtS .append x vs S2 else .bad) = _
    rw [hv]
    show (if mtTy .append S (.ref n) then (evs cl (.cons a .nil) ρ S).bind fun vs S2 => mtS .append (.ref n) vs S2 else .bad) = _
    rw [if_pos (by simp only [mtTy, lstOf, k4]; rfl)]
    show (((ev cl a ρ S).bind fun v S1 => (R.ok [] S1).bind fun vs S2 => R.ok (v :: vs) S2).bind fun vs S2 => mtS .append (.ref n) vs S2) = _
    rw [e1]
    show mtS .append (.ref n) [u] S1 = _
    simp only [mtS, h4]
    rw [if_pos (show Nat.blt vs.length lineN = true from Nat.ble_eq_true_of_le (by rw [IsL.len h5]; exact hl))]
  · rename_i x i a
    have hb : b + ((0 + cE kf i) + (cE kf a + 0)) ≤ BIG := hb
    obtain ⟨c00, cd, w⟩ := w
    obtain ⟨u0, S0, y, ow0, e0, n0', i0, c0, t, xs, k, n, zs, g1, rfl, a1, a2, hl, w⟩ := wO1_ok hc i w r p (by omega)
    obtain ⟨u, S1, d, ow1, e1, n1, i1, c1, q⟩ := woE_ok hc a w n0'.r n0'.p (by omega)
    cases i0
    have hx1 := contains_mem c1
    obtain ⟨a0, m0, ns, yss, us, q1, nd, q2, q3, q4, q5, q6, q7, q8, q9⟩ := n0'.r.inner (contains_mem c0) cd g1 a1 a2
    obtain ⟨a0', m0', ns', yss', us', q1', nd', q2', q3', q4', q5', q6', q7', q8', q9'⟩ := n1.r.inner hx1 cd g1 a1 a2
    rw [q1] at q1'
    cases q1'
    rw [q6] at q6'
    cases q6'
    obtain ⟨r2, s2⟩ := n1.r.upd2 (us := us' ++ [u]) (ys := zs ++ [d]) n1.p hx1 cd q1 q2' q3' q4' nd' q6 (q8'.app (show IsL _ _ [d] [u] from ⟨u, [], rfl, i1, rfl⟩))
    refine ⟨.non, S1.set m0 (.lst (us' ++ [u])), _, ow1, ?_, ((n0'.trans n1).st.trans s2).mono (by show b + cE kf i + cE kf a ≤ b + ((0 + cE kf i) + (cE kf a + 0)); omega), r2, ?_⟩
    · have hv : ev cl (.sub (.var x) i) ρ S = .ok (.ref m0) S0 := by
        have hv : ev cl (.var x) ρ S = .ok (.ref a0) S := by
          unfold ev
          rw [q2]
        show ((ev cl (.var x) ρ S).bind fun x S1 => (ev cl i ρ S1).bind fun y S2 => subS x y S2) = _
        rw [hv]
        show ((ev cl i ρ S).bind fun y S2 => subS (.ref a0) y S2) = _
        rw [e0]
        exact q9
      show ((ev cl (.sub (.var x) i) ρ S).bind fun x S1 => if mtTy .append S1 x then (evs cl (.cons a .nil) ρ S1).bind fun vs S2 => mtS .append x vs S2 else .bad) = _
      rw [hv]
      show (if mtTy .append S0 (.ref m0) then (evs cl (.cons a .nil) ρ S0).bind fun vs S2 => mtS .append (.ref m0) vs S2 else .bad) = _
      rw [if_pos (by simp only [mtTy, lstOf, q7]; rfl)]
      show (((ev cl a ρ S0).bind fun v S1 => (R.ok [] S1).bind fun vs S2 => R.ok (v :: vs) S2).bind fun vs S2 => mtS .append (.ref m0) vs S2) = _
      rw [e1]
      show mtS .append (.ref m0) [u] S1 = _
      simp only [mtS, q7']
      rw [if_pos (show Nat.blt us'.length lineN = true from Nat.ble_eq_true_of_le (by rw [IsL.len q8']; exact hl))]
    · rw [map_set]
      rw [q5'] at q
      exact q
  · rename_i x i a
    have hb : b + (0 + (cE kf i + (cE kf a + 0))) ≤ BIG := hb
    obtain ⟨c0, cd, w⟩ := w
    obtain ⟨u0, S0, y, ow0, e0, n0, i0, w⟩ := wO1_ok hc i w r p (by omega)
    obtain ⟨u, S1, d, ow1, e1, n1, i1, c1, t, xs, k, g1, rfl, hk, hl, q⟩ := woE_ok hc a w n0.r n0.p (by omega)
    cases i0
    have hx := contains_mem c1
    obtain ⟨n, xs', vs, h0, h1, h2, h3, h4, h5⟩ := n1.r.flat hx cd
    rw [g1] at h3
    cases h3
    obtain ⟨r2, s2⟩ := n1.r.upd1 n1.p hx cd h1 h2 ((IsL.app (isL_iff.mpr (Paired.tk k.toNat (isL_iff.mp h5))) (show IsL _ _ [d] [u] from ⟨u, [], rfl, i1, rfl⟩)).app (isL_iff.mpr (Paired.dr k.toNat (isL_iff.mp h5))))
    refine ⟨.non, S1.set n (.lst (vs.take k.toNat ++ [u] ++ vs.drop k.toNat)), _, ow1, ?_, ((n0.trans n1).st.trans s2).mono (by show b + cE kf i + cE kf a ≤ b + (0 + (cE kf i + (cE kf a + 0))); omega), r2, q⟩
    have hv : ev cl (.var x) ρ S = .ok (.ref n) S := by
      unfold ev
      rw [h2]
    obtain ⟨n', _, vs0, _, k1, k2, _, k4, _⟩ := r.flat (contains_mem c0) cd
    rw [h2] at k2
    cases k2
    show ((ev cl (.var x) ρ S).bind fun x S1 => if mtTy .insert S1 x then (evs cl (.cons i (.cons a .nil)) ρ S1).bind fun vs S2 => mtS .insert x vs S2 else .bad) = _
    rw [hv]
    show (if mtTy .insert S (.ref n) then (evs cl (.cons i (.cons a .nil)) ρ S).bind fun vs S2 => mtS .insert (.ref n) vs S2 else .bad) = _
    rw [if_pos (by simp only [mtTy, lstOf, k4]; rfl)]
    show (((ev cl i ρ S).bind fun v S1 => ((ev cl a ρ S1).bind fun v S1 => (R.ok [] S1).bind fun vs S2 => R.ok (v :: vs) S2).bind fun vs S2 => R.ok (v :: vs) S2).bind fun vs S2 => mtS .insert (.ref n) vs S2) = _
    rw [e0]
    show ((((ev cl a ρ S0).bind fun v S1 => (R.ok [] S1).bind fun vs S2 => R.ok (v :: vs) S2).bind fun vs S2 => R.ok (.int k :: vs) S2).bind fun vs S2 => mtS .insert (.ref n) vs S2) = _
    rw [e1]
    show mtS .insert (.ref n) [.int k, u] S1 = _
    simp only [mtS, h4]
    rw [if_pos (by rw [show Nat.blt vs.length lineN = true from Nat.ble_eq_true_of_le (by rw [IsL.len h5]; exact hl), decide_eq_true hk.1, decide_eq_true hk.2]; rfl)]
  · rename_i x
    obtain ⟨v, S1, d, δ1, h1, h2, h3, h4, h5⟩ := woPop_ok hc w r p
    exact ⟨v, S1, δ1, ow, h1, h2.mono (Nat.le_add_right _ _), h3, h5⟩
  · obtain ⟨v, S1, d, ow1, e1, n1, i1, q1⟩ := woE_ok hc _ w r p hb
    exact ⟨v, S1, δ, ow1, e1, n1.st, n1.r, q1⟩
theorem OkG.asg {t : Tg} {e : E} {C : Wc} {N : Nat} {cs cs1 : Nat → List Nat} {ρ : MP.Env} {S S1 : Sto} {b b1 : Nat} {ow ow1 : List Nat} {v : Vl} {Q : PEnv → List Nat → Prop} (e1 : ev cl e ρ S = .ok v S1) (s1 : SEnd C cs cs1 b1 S S1 ow ow1) (g : OkG dm C N cs1 b S1 ow1 (asn cl t v ρ S1) Q) : OkN dm C N cs b S ow (ex cl (.asg t e) ρ S) Q := by
  obtain ⟨ρ2, S2, nm2, ow2, δ2, e2, s2, r2, q2⟩ := g
  refine ⟨ρ2, S2, nm2, ow2, δ2, ?_, s1.trans s2, r2, q2⟩
  show ((ev cl e ρ S).xs ρ fun v S1 => match asn cl t v ρ S1 with | .ok ρ1 S2 => .fl (.nx ρ1) S2 | _ => .bad) = _
  rw [e1]
  show (match asn cl t v ρ S1 with | .ok ρ1 S2 => XS.fl (.nx ρ1) S2 | _ => .bad) = _
  rw [e2]
theorem woAsg_ok (om : List Nat) (t : Tg) (e : E) {C : Wc} {N : Nat} {cs : Nat → List Nat} {δ : PEnv} {ρ : MP.Env} {S : Sto} {b : Nat} {ow : List Nat} {Q : PEnv → List Nat → Prop} (w : woAsg wc dm om t e δ ow Q) (r : RO dm C N cs S ρ δ ow) (p : PuOk C b S) (hb : b + (cE kf e + cG kf t) ≤ BIG) :
    OkN dm C N cs (b + (cE kf e + cG kf t)) S ow (ex cl (.asg t e) ρ S) Q := by
  unfold woAsg at w
  split at w
  · rename_i y
    obtain ⟨v, S1, d, δ1, h1, h2, h3, h4, h5⟩ := woPop_ok hc w r p
    have hb : b + (0 + cG kf t) ≤ BIG := hb
    have g := (woG_ok hc t h5 h3 h4 h2.p (by omega)).mono (b' := b + (0 + cG kf t)) (by omega)
    exact OkG.asg hc h1 h2 g
  · rename_i e' ne
    have gen : ∀ (t : Tg), b + (cE kf e + cG kf t) ≤ BIG → (woE wc dm e δ ow fun d ow1 => woG wc dm t d δ ow1 Q) → OkN dm C N cs (b + (cE kf e + cG kf t)) S ow (ex cl (.asg t e) ρ S) Q := fun t hb w => by
      obtain ⟨v, S1, d, ow1, e1, n1, i1, q1⟩ := woE_ok hc e w r p (by omega)
      have g := (woG_ok hc t q1 n1.r i1 n1.p (by omega)).mono (b' := b + (cE kf e + cG kf t)) (by omega)
      exact OkG.asg hc e1 n1.st g
    split at w
    · rename_i x
      split at w
      · rename_i c
        rw [Bool.and_eq_true] at c
        have hb : b + (cE kf e + 0) ≤ BIG := hb
        have fin : (∃ v S1 cs1 ow1 δ1, ev cl e ρ S = .ok v S1 ∧ SEnd C cs cs1 (b + cE kf e) S S1 ow ow1 ∧ RO dm C N cs1 S1 (ρ.set x (some v)) δ1 ow1 ∧ Q δ1 ow1) → OkN dm C N cs (b + (cE kf e + 0)) S ow (ex cl (.asg (.name x) e) ρ S) Q := fun ⟨v, S1, cs1, ow1, δ1, e1, s1, r1, q1⟩ => by
          refine ⟨ρ.set x (some v), S1, cs1, ow1, δ1, ?_, s1.mono (by show b + cE kf e ≤ b + (cE kf e + 0); omega), r1, q1⟩
          show ((ev cl e ρ S).xs ρ fun v S1 => .fl (.nx (ρ.set x (some v))) S1) = _
          rw [e1]
          rfl
        split at w
        · rename_i cd
          exact fin (wOwnD_ok hc x e w.1 cd w.2 r p (by omega))
        · rename_i cd
          exact fin (wOwn_ok hc x e c.2 (by simpa using cd) w r p (by omega))
      · exact gen _ hb w
    · exact gen _ hb w
end
end MP
namespace MP
open PySem
theorem Wc.hide_none {C : Wc} {h : Nat → Bool} {S : Sto} (e : ∀ i, h i = false) : C.hide h S = C := by
  obtain ⟨n0, pu, ce⟩ := C
  unfold Wc.hide
  congr 1
  · funext i
    show (pu i || h i) = pu i
    rw [e, Bool.or_false]
  · funext i
    show (if h i = true then cont S i else ce i) = ce i
    rw [e, if_neg (by decide)]
theorem hid_nil {cs : Nat → List Nat} : ∀ i, hid cs [] i = false := fun _ => rfl
def OkO (dm : List Nat) (C : Wc) (N : Nat) (cs : Nat → List Nat) (b : Nat) (S : Sto) (ow : List Nat) (r : XS) (E : OEnds) : Prop := match r with
  | .fl (.nx ρ) S1 => ∃ cs1 ow1 δ1, SEnd C cs cs1 b S S1 ow ow1 ∧ RO dm C N cs1 S1 ρ δ1 ow1 ∧ E.nx δ1 ow1
  | .fl (.bk ρ) S1 => ∃ cs1 ow1 δ1, SEnd C cs cs1 b S S1 ow ow1 ∧ RO dm C N cs1 S1 ρ δ1 ow1 ∧ E.bk δ1 ow1
  | .fl (.ct ρ) S1 => ∃ cs1 ow1 δ1, SEnd C cs cs1 b S S1 ow ow1 ∧ RO dm C N cs1 S1 ρ δ1 ow1 ∧ E.ct δ1 ow1
  | .fl (.rt v) S1 => SEnd C cs cs b S S1 ow [] ∧ ∃ d, Is C S1 d v ∧ E.rt d
  | _ => False
theorem SEnd.nil {C : Wc} {cs cs1 cs2 : Nat → List Nat} {b : Nat} {S S1 : Sto} {ow : List Nat} (a : SEnd C cs cs1 b S S1 ow []) : SEnd C cs cs2 b S S1 ow [] := by
  have e1 : C.hide (hid cs1 []) S1 = C := Wc.hide_none hid_nil
  have e2 : C.hide (hid cs2 []) S1 = C := Wc.hide_none hid_nil
  exact ⟨a.n, a.p, by have := a.keep; rw [e1] at this; rw [e2]; exact this, by have := a.is; rw [e1] at this; rw [e2]; exact this⟩
theorem OkO.after {dm : List Nat} {C : Wc} {N : Nat} {cs cs1 : Nat → List Nat} {b b' b1 : Nat} {S S1 : Sto} {ow ow1 : List Nat} {r : XS} {E : OEnds} (h : OkO dm C N cs1 b' S1 ow1 r E) (s : SEnd C cs cs1 b1 S S1 ow ow1) (l : b' ≤ b) : OkO dm C N cs b S ow r E := by
  cases r with
  | fl f S' => cases f with
    | nx ρ => obtain ⟨cs2, ow2, δ2, s2, r2, q2⟩ := h; exact ⟨cs2, ow2, δ2, (s.trans s2).mono l, r2, q2⟩
    | bk ρ => obtain ⟨cs2, ow2, δ2, s2, r2, q2⟩ := h; exact ⟨cs2, ow2, δ2, (s.trans s2).mono l, r2, q2⟩
    | ct ρ => obtain ⟨cs2, ow2, δ2, s2, r2, q2⟩ := h; exact ⟨cs2, ow2, δ2, (s.trans s2).mono l, r2, q2⟩
    | rt v => obtain ⟨s2, q2⟩ := h; exact ⟨((s.trans s2).mono l).nil, q2⟩
  | _ => exact h
theorem OkN.ok {dm : List Nat} {C : Wc} {N : Nat} {cs : Nat → List Nat} {b b' : Nat} {S : Sto} {ow : List Nat} {r : XS} {E : OEnds} (h : OkN dm C N cs b S ow r E.nx) (l : b ≤ b') : OkO dm C N cs b' S ow r E := by
  obtain ⟨ρ1, S1, cs1, ow1, δ1, e, s, r1, q⟩ := h
  subst e
  exact ⟨cs1, ow1, δ1, s.mono l, r1, q⟩
/-- from one view to a later one -/
structure TrP (C : Wc) (S : Sto) (C1 : Wc) (S1 : Sto) : Prop where
  keep : ∀ i o, S.get i = some o → C.pu i = false → S1.get i = some o ∧ C1.pu i = false
  is : ∀ (d : D) (v : Vl), Is C S d v → Is C1 S1 d v
theorem TrP.trn {C C1 : Wc} {S S1 : Sto} (a : TrP C S C1 S1) : Trn C S C1 S1 := ⟨fun i o g p => (a.keep i o g p).1, a.is⟩
theorem TrP.trans {C C1 C2 : Wc} {S S1 S2 : Sto} (a : TrP C S C1 S1) (c : TrP C1 S1 C2 S2) : TrP C S C2 S2 := ⟨fun i o g p => let ⟨h1, h2⟩ := a.keep i o g p; c.keep i o h1 h2, fun d v h => c.is d v (a.is d v h)⟩
theorem TrP.refl {C : Wc} {S : Sto} : TrP C S C S := ⟨fun _ _ g p => ⟨g, p⟩, fun _ _ h => h⟩
theorem SEnd.trp {C : Wc} {cs cs1 : Nat → List Nat} {b : Nat} {S S1 : Sto} {ow ow1 : List Nat} (a : SEnd C cs cs1 b S S1 ow ow1) : TrP (C.hide (hid cs ow) S) S (C.hide (hid cs1 ow1) S1) S1 := ⟨a.keep, a.is⟩
theorem ofor_ok {dm : List Nat} {C : Wc} {N : Nat} {as : D → PEnv → List Nat → (PEnv → List Nat → Prop) → Prop} {bd : PEnv → List Nat → OEnds → Prop} {as' : Vl → MP.Env → Sto → R MP.Env} {bd' : MP.Env → Sto → XS} {C0 : Wc} {S0 : Sto} {J : Itr} {all : List D} {ka kb : Nat} {E : OEnds}
    (hJ : ItI C0 S0 all J)
    (ha : ∀ {x : D} {v : Vl} {cs : Nat → List Nat} {δ : PEnv} {ρ : MP.Env} {S : Sto} {b : Nat} {ow : List Nat} {K : PEnv → List Nat → Prop}, as x δ ow K → RO dm C N cs S ρ δ ow → Is (C.hide (hid cs ow) S) S x v → PuOk C b S → b + ka ≤ BIG → OkG dm C N cs (b + ka) S ow (as' v ρ S) K)
    (hb : ∀ {cs : Nat → List Nat} {δ : PEnv} {ρ : MP.Env} {S : Sto} {b : Nat} {ow : List Nat} {E : OEnds}, bd δ ow E → RO dm C N cs S ρ δ ow → PuOk C b S → b + kb ≤ BIG → OkO dm C N cs (b + kb) S ow (bd' ρ S) E) :
    ∀ (m i : Nat) (xs : List D) (δ : PEnv) (ρ : MP.Env) (S : Sto) (cs : Nat → List Nat) (ow : List Nat) (b : Nat), xs.length < m → (∀ j, all[i + j]? = xs[j]?) → woFor as bd xs δ ow E → RO dm C N cs S ρ δ ow → TrP C0 S0 (C.hide (hid cs ow) S) S → PuOk C b S → b + m * (ka + kb) ≤ BIG →
      OkO dm C N cs (b + m * (ka + kb)) S ow (forLoop as' bd' J m i ρ S) E
  | 0, i, xs, δ, ρ, S, cs, ow, b, hm, hx, w, r, t, p, hl => absurd hm (Nat.not_lt_zero _)
  | m + 1, i, [], δ, ρ, S, cs, ow, b, hm, hx, w, r, t, p, hl => by
    rw [for_eq, (hJ _ S b i t.trn (p.hide r.lst)).1 (by have := hx 0; simpa using this)]
    exact ⟨cs, ow, δ, SEnd.refl (p.mono (Nat.le_add_right _ _)), r, w⟩
  | m + 1, i, x :: xs, δ, ρ, S, cs, ow, b, hm, hx, w, r, t, p, hl => by
    obtain ⟨v, S1, h1, k1, p1, i1⟩ := (hJ _ S b i t.trn (p.hide r.lst)).2 x (by have := hx 0; simpa using this)
    rw [Nat.succ_mul] at hl
    obtain ⟨r1, t1⟩ := r.run (ow1 := ow) (fun _ h => h) k1 p1
    have i1 : Is (C.hide (hid cs ow) S1) S1 x v := Is.hide_mono r.lst (fun _ z => z) x i1
    have pc := p1.unhide r.apart
    have s1 : SEnd C cs cs b S S1 ow ow := ⟨k1.n, pc, fun i o g hp => ⟨k1.keep i o g hp, hp⟩, t1.is⟩
    have hw : as x δ ow fun δ1 ow1 => bd δ1 ow1 { nx := fun δ2 ow2 => woFor as bd xs δ2 ow2 E, ct := fun δ2 ow2 => woFor as bd xs δ2 ow2 E, bk := E.nx, rt := E.rt } := w
    obtain ⟨ρ2, S2, cs2, ow2, δ2, e2, s2, r2, q2⟩ := ha hw r1 i1 pc (by omega)
    have ob := hb q2 r2 s2.p (by omega)
    have nx : ∀ j, all[i + 1 + j]? = xs[j]? := fun j => by
      have := hx (j + 1)
      rw [List.getElem?_cons_succ] at this
      rw [← this]
      congr 1
      omega
    have hm' : xs.length < m := by rw [List.length_cons] at hm; omega
    rw [for_eq, h1]
    dsimp only
    rw [e2]
    dsimp only
    have s12 := s1.trans s2
    cases q : bd' ρ2 S2 with
    | bad => rw [q] at ob; exact False.elim ob
    | exc k v ρ3 S3 => rw [q] at ob; exact False.elim ob
    | fl f S3 =>
      rw [q] at ob
      cases f with
      | nx ρ3 =>
        obtain ⟨cs3, ow3, δ3, s3, r3, q3⟩ := ob
        exact (ofor_ok hJ ha hb m (i + 1) xs δ3 ρ3 S3 cs3 ow3 (b + ka + kb) hm' nx q3 r3 (t.trans (s12.trans s3).trp) s3.p (by omega)).after (s12.trans s3) (by rw [Nat.succ_mul]; omega)
      | ct ρ3 =>
        obtain ⟨cs3, ow3, δ3, s3, r3, q3⟩ := ob
        exact (ofor_ok hJ ha hb m (i + 1) xs δ3 ρ3 S3 cs3 ow3 (b + ka + kb) hm' nx q3 r3 (t.trans (s12.trans s3).trp) s3.p (by omega)).after (s12.trans s3) (by rw [Nat.succ_mul]; omega)
      | bk ρ3 =>
        obtain ⟨cs3, ow3, δ3, s3, r3, q3⟩ := ob
        exact ⟨cs3, ow3, δ3, (s12.trans s3).mono (by rw [Nat.succ_mul]; omega), r3, q3⟩
      | rt v3 =>
        obtain ⟨s3, q3⟩ := ob
        exact ⟨((s12.trans s3).mono (by rw [Nat.succ_mul]; omega)).nil, q3⟩
theorem owhl_ok {dm : List Nat} {C : Wc} {N : Nat} {tt : PEnv → List Nat → (Bool → Prop) → Prop} {bd : PEnv → List Nat → OEnds → Prop} {tt' : MP.Env → Sto → R Bool} {bd' : MP.Env → Sto → XS} {ka kb : Nat} {E : OEnds}
    (ha : ∀ {cs : Nat → List Nat} {δ : PEnv} {ρ : MP.Env} {S : Sto} {b : Nat} {ow : List Nat} {K : Bool → Prop}, tt δ ow K → RO dm C N cs S ρ δ ow → PuOk C b S → b + ka ≤ BIG → ∃ t S1, tt' ρ S = .ok t S1 ∧ SEnd C cs cs (b + ka) S S1 ow ow ∧ RO dm C N cs S1 ρ δ ow ∧ K t)
    (hb : ∀ {cs : Nat → List Nat} {δ : PEnv} {ρ : MP.Env} {S : Sto} {b : Nat} {ow : List Nat} {E : OEnds}, bd δ ow E → RO dm C N cs S ρ δ ow → PuOk C b S → b + kb ≤ BIG → OkO dm C N cs (b + kb) S ow (bd' ρ S) E) :
    ∀ (f m : Nat) (δ : PEnv) (ρ : MP.Env) (S : Sto) (cs : Nat → List Nat) (ow : List Nat) (b : Nat), f ≤ m → woWhl tt bd f δ ow E → RO dm C N cs S ρ δ ow → PuOk C b S → b + m * (ka + kb) ≤ BIG → OkO dm C N cs (b + m * (ka + kb)) S ow (whlLoop tt' bd' m ρ S) E
  | 0, m, δ, ρ, S, cs, ow, b, hm, w, r, p, hl => False.elim w
  | f + 1, 0, δ, ρ, S, cs, ow, b, hm, w, r, p, hl => absurd hm (Nat.not_succ_le_zero _)
  | f + 1, m + 1, δ, ρ, S, cs, ow, b, hm, w, r, p, hl => by
    rw [Nat.succ_mul] at hl
    have hw : tt δ ow fun t => match t with
      | true => bd δ ow { nx := fun δ2 ow2 => woWhl tt bd f δ2 ow2 E, ct := fun δ2 ow2 => woWhl tt bd f δ2 ow2 E, bk := E.nx, rt := E.rt }
      | false => E.nx δ ow := w
    obtain ⟨t, S1, e1, s1, r1, q1⟩ := ha hw r p (by omega)
    rw [whl_eq, e1]
    cases t with
    | false => exact ⟨cs, ow, δ, s1.mono (by rw [Nat.succ_mul]; omega), r1, q1⟩
    | true =>
      dsimp only
      have ob := hb q1 r1 s1.p (by omega)
      have hm' : f ≤ m := by omega
      cases q : bd' ρ S1 with
      | bad => rw [q] at ob; exact False.elim ob
      | exc k v ρ3 S3 => rw [q] at ob; exact False.elim ob
      | fl fl S3 =>
        rw [q] at ob
        cases fl with
        | nx ρ3 =>
          obtain ⟨cs3, ow3, δ3, s3, r3, q3⟩ := ob
          exact (owhl_ok ha hb f m δ3 ρ3 S3 cs3 ow3 (b + ka + kb) hm' q3 r3 s3.p (by omega)).after (s1.trans s3) (by rw [Nat.succ_mul]; omega)
        | ct ρ3 =>
          obtain ⟨cs3, ow3, δ3, s3, r3, q3⟩ := ob
          exact (owhl_ok ha hb f m δ3 ρ3 S3 cs3 ow3 (b + ka + kb) hm' q3 r3 s3.p (by omega)).after (s1.trans s3) (by rw [Nat.succ_mul]; omega)
        | bk ρ3 =>
          obtain ⟨cs3, ow3, δ3, s3, r3, q3⟩ := ob
          exact ⟨cs3, ow3, δ3, (s1.trans s3).mono (by rw [Nat.succ_mul]; omega), r3, q3⟩
        | rt v3 =>
          obtain ⟨s3, q3⟩ := ob
          exact ⟨((s1.trans s3).mono (by rw [Nat.succ_mul]; omega)).nil, q3⟩
section
variable {wc : WCl} {dm : List Nat} {kf : Nat → Nat} {cl : Nat → List Vl → Sto → R Vl} (hc : ∀ C, Snd C wc kf cl)
include hc
theorem woT_ok (c : Tt) {C : Wc} {N : Nat} {cs : Nat → List Nat} {δ : PEnv} {ρ : MP.Env} {S : Sto} {b : Nat} {ow : List Nat} {Q : Bool → Prop} (w : woT wc c δ ow Q) (r : RO dm C N cs S ρ δ ow) (p : PuOk C b S) (hb : b + cT kf c ≤ BIG) :
    ∃ t S1, tst cl c ρ S = .ok t S1 ∧ SEnd C cs cs (b + cT kf c) S S1 ow ow ∧ RO dm C N cs S1 ρ δ ow ∧ Q t := by
  have s : ∀ j ∈ keepT c ow, j ∈ ow := keep_sub
  have r1 := r.sub s
  obtain ⟨t, S1, t', e1, k1, p1, i1, q1⟩ := sT (hc _) c w r1.env (p.hide r1.lst) hb
  subst i1
  obtain ⟨r2, t2⟩ := r.run s k1 p1
  exact ⟨t', S1, e1, ⟨k1.n, p1.unhide r1.apart, fun i o g hp => ⟨t2.keep i o g hp, hp⟩, t2.is⟩, r2, q1⟩
theorem woI_ok (it : MP.It) {C : Wc} {N : Nat} {cs : Nat → List Nat} {δ : PEnv} {ρ : MP.Env} {S : Sto} {b : Nat} {ow : List Nat} {Q : List D → Prop} (w : wpI wc it (wipeD δ (keepI it ow)) Q) (r : RO dm C N cs S ρ δ ow) (p : PuOk C b S) (hb : b + cI kf it ≤ BIG) :
    ∃ J S1 xs, itr cl it ρ S = .ok J S1 ∧ SEnd C cs cs (b + cI kf it) S S1 ow (if isRng it = true then ow else keepI it ow) ∧ RO dm C N cs S1 ρ δ (if isRng it = true then ow else keepI it ow) ∧ ItI (C.hide (hid cs (if isRng it = true then ow else keepI it ow)) S1) S1 xs J ∧ Q xs := by
  have s : ∀ j ∈ keepI it ow, j ∈ ow := keep_sub
  have r1 := r.sub s
  by_cases c : isRng it = true
  · cases it with
    | rng es =>
      obtain ⟨vs, S1, ds, e1, k1, p1, i1, q1⟩ := sA (hc _) es w r1.env (p.hide r1.lst) hb
      obtain ⟨lo, n, h1, h2⟩ := wRng_ok q1 i1
      obtain ⟨r2, t2⟩ := r.run s k1 p1
      rw [if_pos c]
      refine ⟨.rng lo n, S1, _, ?_, ⟨k1.n, p1.unhide r1.apart, fun i o g hp => ⟨t2.keep i o g hp, hp⟩, t2.is⟩, r2, it_rngI lo n, h2⟩
      exact itr_rng e1 h1
    | _ => cases c
  · rw [if_neg c]
    obtain ⟨J, S1, xs, e1, k1, p1, i1, q1⟩ := sI (hc _) it w r1.env (p.hide r1.lst) hb
    obtain ⟨r2, t2⟩ := r.run s k1 p1
    have se : SEnd C cs cs (b + cI kf it) S S1 ow ow := ⟨k1.n, p1.unhide r1.apart, fun i o g hp => ⟨t2.keep i o g hp, hp⟩, t2.is⟩
    refine ⟨J, S1, xs, e1, se.sub r2.lst s, r2.sub s, fun C' S' b' i t p' => ?_, q1⟩
    refine i1 C' S' b' i ⟨fun i o g hp => t.keep i o g ?_, fun d v h => t.is d v (Is.hide_mono r1.lst (fun _ z => z) d h)⟩ p'
    exact pu_hide.mpr (pu_hide.mp hp)
variable (om : List Nat)
mutual
theorem woS_ok : ∀ (s : Sm) {C : Wc} {N : Nat} {cs : Nat → List Nat} {δ : PEnv} {ρ : MP.Env} {S : Sto} {b : Nat} {ow : List Nat} {E : OEnds}, woS wc dm om s δ ow E → RO dm C N cs S ρ δ ow → PuOk C b S → b + cS kf s ≤ BIG → OkO dm C N cs (b + cS kf s) S ow (ex cl s ρ S) E
  | .bad, C, N, cs, δ, ρ, S, b, ow, E, w, r, p, hb => False.elim w
  | .pass, C, N, cs, δ, ρ, S, b, ow, E, w, r, p, hb => ⟨cs, ow, δ, SEnd.refl p, r, w⟩
  | .brk, C, N, cs, δ, ρ, S, b, ow, E, w, r, p, hb => ⟨cs, ow, δ, SEnd.refl p, r, w⟩
  | .cnt, C, N, cs, δ, ρ, S, b, ow, E, w, r, p, hb => ⟨cs, ow, δ, SEnd.refl p, r, w⟩
  | .retN, C, N, cs, δ, ρ, S, b, ow, E, w, r, p, hb => ⟨(SEnd.refl p).sub r.lst (fun _ h => (List.not_mem_nil h).elim), .non, rfl, w⟩
  | .expr e, C, N, cs, δ, ρ, S, b, ow, E, w, r, p, hb => by
    obtain ⟨v, S1, δ1, ow1, e1, s1, r1, q1⟩ := woX_ok hc e w r p hb
    show OkO dm C N cs (b + cE kf e) S ow ((ev cl e ρ S).xs ρ fun _ S1 => .fl (.nx ρ) S1) E
    rw [e1]
    exact ⟨cs, ow1, δ1, s1, r1, q1⟩
  | .asg t e, C, N, cs, δ, ρ, S, b, ow, E, w, r, p, hb => (woAsg_ok hc om t e w r p hb).ok (Nat.le_refl _)
  | .par i j a c, C, N, cs, δ, ρ, S, b, ow, E, w, r, p, hb => by
    have hb : b + (cE kf a + cE kf c) ≤ BIG := hb
    have w : woE wc dm a δ ow fun x ow1 => woE wc dm c δ ow1 fun y ow2 => E.nx ((δ.set i (some x)).set j (some y)) (dropO (dropO ow2 i) j) := w
    obtain ⟨v, S1, x, ow1, e1, n1, i1, w⟩ := woE_ok hc a w r p (by omega)
    obtain ⟨u, S2, y, ow2, e2, n2, i2, w⟩ := woE_ok hc c w n1.r n1.p (by omega)
    have r3 := n2.r.setV i (n2.is x v i1)
    have s3 : ∀ k ∈ dropO ow2 i, k ∈ ow2 := keep_sub
    have r4 := r3.setV j (Is.hide_mono n2.r.lst (hid_sub s3) y i2)
    have s4 : ∀ k ∈ dropO (dropO ow2 i) j, k ∈ ow2 := fun k h => s3 k (keep_sub k h)
    show OkO dm C N cs (b + (cE kf a + cE kf c)) S ow ((ev cl a ρ S).xs ρ fun v S1 => (ev cl c ρ S1).xs ρ fun w S2 => .fl (.nx ((ρ.set i (some v)).set j (some w))) S2) E
    rw [e1]
    show OkO dm C N cs (b + (cE kf a + cE kf c)) S ow ((ev cl c ρ S1).xs ρ fun w S2 => .fl (.nx ((ρ.set i (some v)).set j (some w))) S2) E
    rw [e2]
    exact ⟨cs, _, _, ((n1.trans n2).st.sub n2.r.lst s4).mono (by omega), r4, w⟩
  | .ret e, C, N, cs, δ, ρ, S, b, ow, E, w, r, p, hb => by
    have s0 : ∀ j ∈ ([] : List Nat), j ∈ ow := fun _ h => (List.not_mem_nil h).elim
    have r0 := r.sub s0
    have en := r0.env
    have eC : C.hide (hid cs []) S = C := Wc.hide_none hid_nil
    rw [eC] at en
    obtain ⟨v, S1, d, e1, k1, p1, i1, q1⟩ := sE (hc C) e w en p hb
    show OkO dm C N cs (b + cE kf e) S ow ((ev cl e ρ S).xs ρ fun v S1 => .fl (.rt v) S1) E
    rw [e1]
    have e0 : C.hide (hid cs []) S1 = C := Wc.hide_none hid_nil
    refine ⟨⟨k1.n, p1, fun i o g hp => ?_, fun d v h => ?_⟩, d, i1, q1⟩
    · rw [e0]
      obtain ⟨h1, _⟩ := pu_hide.mp hp
      exact ⟨k1.keep i o g h1, h1⟩
    · rw [e0]
      have := Is.hide_mono (S1 := S) r.lst (hid_sub s0) d h
      rw [eC] at this
      exact Is.kp k1 d this
  | .ite c a d, C, N, cs, δ, ρ, S, b, ow, E, w, r, p, hb => by
    have hb : b + (cT kf c + (cSs kf a + cSs kf d)) ≤ BIG := hb
    obtain ⟨t, S1, e1, s1, r1, q1⟩ := woT_ok hc c w r p (by omega)
    show OkO dm C N cs (b + (cT kf c + (cSs kf a + cSs kf d))) S ow (match tst cl c ρ S with
      | .ok true S1 => exs cl a ρ S1
      | .ok false S1 => exs cl d ρ S1
      | .exc k v S => .exc k v ρ S
      | .bad => .bad) E
    rw [e1]
    cases t with
    | true => exact (woSs_ok a q1 r1 s1.p (by omega)).after s1 (by omega)
    | false => exact (woSs_ok d q1 r1 s1.p (by omega)).after s1 (by omega)
  | .forr t it c, C, N, cs, δ, ρ, S, b, ow, E, w, r, p, hb => by
    have hb : b + (cI kf it + LF * (cG kf t + cSs kf c)) ≤ BIG := hb
    have w : wpI wc it (wipeD δ (keepI it ow)) fun xs => xs.length < LF ∧ woFor (fun x δ' ow' K => woG wc dm t x δ' ow' K) (fun δ' ow' E' => woSs wc dm om c δ' ow' E') xs δ (if isRng it = true then ow else keepI it ow) E := w
    obtain ⟨J, S1, xs, e1, s1, r1, i1, hl, w⟩ := woI_ok hc it w r p (by omega)
    show OkO dm C N cs (b + (cI kf it + LF * (cG kf t + cSs kf c))) S ow (match itr cl it ρ S with
      | .ok J S1 => forLoop (fun v ρ' S' => asn cl t v ρ' S') (fun ρ' S' => exs cl c ρ' S') J LF 0 ρ S1
      | .exc k v S => .exc k v ρ S
      | .bad => .bad) E
    rw [e1]
    exact (ofor_ok i1 (fun {x v cs δ ρ S b ow K} w r i p hb => woG_ok hc t w r i p hb) (fun {cs δ ρ S b ow E} w r p hb => woSs_ok c w r p hb) LF 0 xs δ ρ S1 cs _ _ hl (fun j => by rw [Nat.zero_add]) w r1 TrP.refl s1.p (by omega)).after s1 (by omega)
  | .whl c d, C, N, cs, δ, ρ, S, b, ow, E, ⟨f, hf, w⟩, r, p, hb => by
    have hb : b + LF * (cT kf c + cSs kf d) ≤ BIG := hb
    exact owhl_ok (fun {cs δ ρ S b ow K} w r p hb => woT_ok hc c w r p hb) (fun {cs δ ρ S b ow E} w r p hb => woSs_ok d w r p hb) f LF δ ρ S cs ow b hf w r p hb
termination_by structural x => x
theorem woSs_ok : ∀ (s : Ss) {C : Wc} {N : Nat} {cs : Nat → List Nat} {δ : PEnv} {ρ : MP.Env} {S : Sto} {b : Nat} {ow : List Nat} {E : OEnds}, woSs wc dm om s δ ow E → RO dm C N cs S ρ δ ow → PuOk C b S → b + cSs kf s ≤ BIG → OkO dm C N cs (b + cSs kf s) S ow (exs cl s ρ S) E
  | .nil, C, N, cs, δ, ρ, S, b, ow, E, w, r, p, hb => ⟨cs, ow, δ, SEnd.refl p, r, w⟩
  | .cons s t, C, N, cs, δ, ρ, S, b, ow, E, w, r, p, hb => by
    have hb : b + (cS kf s + cSs kf t) ≤ BIG := hb
    have o1 := woS_ok s w r p (by omega)
    show OkO dm C N cs (b + (cS kf s + cSs kf t)) S ow (match ex cl s ρ S with
      | .fl (.nx ρ1) S1 => exs cl t ρ1 S1
      | x => x) E
    cases q : ex cl s ρ S with
    | bad => rw [q] at o1; exact False.elim o1
    | exc k v ρ3 S3 => rw [q] at o1; exact False.elim o1
    | fl f S1 =>
      rw [q] at o1
      cases f with
      | nx ρ1 =>
        obtain ⟨cs1, ow1, δ1, s1, r1, q1⟩ := o1
        exact (woSs_ok t q1 r1 s1.p (by omega)).after s1 (by omega)
      | bk ρ1 =>
        obtain ⟨cs1, ow1, δ1, s1, r1, q1⟩ := o1
        exact ⟨cs1, ow1, δ1, s1.mono (by omega), r1, q1⟩
      | ct ρ1 =>
        obtain ⟨cs1, ow1, δ1, s1, r1, q1⟩ := o1
        exact ⟨cs1, ow1, δ1, s1.mono (by omega), r1, q1⟩
      | rt v =>
        obtain ⟨s1, q1⟩ := o1
        exact ⟨s1.mono (by omega), q1⟩
termination_by structural x => x
end
end
/-- a def's body with owned slots keeps its word -/
theorem own_body {dm : List Nat} {C : Wc} {wc : WCl} {kf : Nat → Nat} {cl : Nat → List Vl → Sto → R Vl} (hc : ∀ C, Snd C wc kf cl) {om : List Nat} {F : Fn} {xs : List D} {vs : List Vl} {S : Sto} {b : Nat} {Q : D → Prop}
    (w : woSs wc dm om F.body (startD F.nn xs) [] { nx := fun _ _ => Q .non, rt := Q }) (i : IsL C S xs vs) (p : PuOk C b S) (cp : ∀ i, C.pu i = true → i < S.n) (hb : b + cSs kf F.body ≤ BIG) :
    Ok C b (cSs kf F.body) S (match exs cl F.body (MP.start F.nn vs) S with
      | .fl (.nx _) S1 => .ok .non S1
      | .fl (.rt v) S1 => .ok v S1
      | .exc k v _ S1 => .exc k v S1
      | _ => .bad) (Is C) Q := by
  have eC : C.hide (hid (fun _ => []) []) S = C := Wc.hide_none hid_nil
  have en := envI_start (nn := F.nn) i
  have r : RO dm C S.n (fun _ => []) S (MP.start F.nn vs) (startD F.nn xs) [] := ⟨Nat.le_refl _, p.2, cp, fun j hj => (List.not_mem_nil hj).elim, en.1, fun j d _ e => by rw [eC]; exact en.2 j d e, fun j hj => (List.not_mem_nil hj).elim⟩
  have o := woSs_ok hc om F.body w r p hb
  have kp : ∀ {cs : Nat → List Nat} {b' : Nat} {S1 : Sto} {ow : List Nat}, SEnd C (fun _ => []) cs b' S S1 [] ow → Kp C S S1 := fun s => ⟨s.n, fun i o g hp => (s.keep i o g (by rw [eC]; exact hp)).1⟩
  cases q : exs cl F.body (MP.start F.nn vs) S with
  | bad => rw [q] at o; exact False.elim o
  | exc k v ρ3 S3 => rw [q] at o; exact False.elim o
  | fl fl S1 =>
    rw [q] at o
    cases fl with
    | nx ρ1 =>
      obtain ⟨cs1, ow1, δ1, s1, r1, q1⟩ := o
      exact ⟨.non, S1, .non, rfl, kp s1, s1.p, rfl, q1⟩
    | bk ρ1 => obtain ⟨_, _, _, _, _, z⟩ := o; exact False.elim z
    | ct ρ1 => obtain ⟨_, _, _, _, _, z⟩ := o; exact False.elim z
    | rt v =>
      obtain ⟨s1, d, i1, q1⟩ := o
      exact ⟨v, S1, d, rfl, kp s1, s1.p, i1, q1⟩
end MP
namespace MP
open PySem
def wclO (T : List Fn) (sp : Specs) (md : Nat → Option (List Nat × List Nat)) : Nat → WCl
  | 0, f, xs, Q => match sp f with
    | some w => w xs Q
    | none => False
  | d + 1, f, xs, Q => match sp f with
    | some w => w xs Q
    | none => match T[f]? with
      | none => False
      | some F => xs.length = F.np ∧ (match md f with
        | none => wpSs (wclO T sp md d) F.body (startD F.nn xs) { nx := fun _ => Q .non, rt := Q }
        | some om => woSs (wclO T sp md d) om.2 om.1 F.body (startD F.nn xs) [] { nx := fun _ _ => Q .non, rt := Q })
theorem PuOk.below {C : Wc} {b : Nat} {S : Sto} (p : PuOk C b S) : ∀ i, C.pu i = true → i < S.n := fun i hi => by
  obtain ⟨vs, g⟩ := (p.1 i hi).get
  exact Sto.get_lt g
theorem wclO_snd {T : List Fn} {sp : Specs} {ks : Nat → Nat} {m0 : Nat} {md : Nat → Option (List Nat × List Nat)} (h : ∀ C, SpOk C T sp ks m0) : ∀ (d : Nat) (C : Wc), Snd C (wclO T sp md d) (kcl T sp ks d) (calls T (d + m0))
  | 0, C => fun f xs Q vs S b w i p hb => by
    have w : match sp f with
      | some w => w xs Q
      | none => False := w
    cases e : sp f with
    | none => rw [e] at w; exact False.elim w
    | some w' => rw [e] at w; exact h C f w' e 0 xs Q vs S b w i p hb
  | d + 1, C => fun f xs Q vs S b w i p hb => by
    have w : match sp f with
      | some w => w xs Q
      | none => match T[f]? with
        | none => False
        | some F => xs.length = F.np ∧ (match md f with
          | none => wpSs (wclO T sp md d) F.body (startD F.nn xs) { nx := fun _ => Q .non, rt := Q }
          | some om => woSs (wclO T sp md d) om.2 om.1 F.body (startD F.nn xs) [] { nx := fun _ _ => Q .non, rt := Q }) := w
    have hb' : b + (match sp f with
      | some _ => ks f
      | none => match T[f]? with
        | none => 0
        | some F => cSs (kcl T sp ks d) F.body) ≤ BIG := hb
    show Ok C b (match sp f with
      | some _ => ks f
      | none => match T[f]? with
        | none => 0
        | some F => cSs (kcl T sp ks d) F.body) S (calls T (d + 1 + m0) f vs S) (Is C) Q
    cases e : sp f with
    | some w' =>
      rw [e] at w hb'
      exact h C f w' e (d + 1) xs Q vs S b w i p hb'
    | none =>
      rw [e] at w hb'
      cases eT : T[f]? with
      | none => rw [eT] at w; exact False.elim w
      | some F =>
        rw [eT] at w hb'
        obtain ⟨hl, w⟩ := w
        have ed : d + 1 + m0 = (d + m0) + 1 := by omega
        rw [ed]
        show Ok C b (cSs (kcl T sp ks d) F.body) S (match T[f]? with
          | none => .bad
          | some F => if vs.length == F.np then (match exs (calls T (d + m0)) F.body (MP.start F.nn vs) S with
            | .fl (.nx _) S1 => .ok .non S1
            | .fl (.rt v) S1 => .ok v S1
            | .exc k v _ S1 => .exc k v S1
            | _ => .bad) else .bad) (Is C) Q
        rw [eT]
        dsimp only
        rw [if_pos (by rw [IsL.len i, hl]; simp)]
        cases em : md f with
        | some om =>
          rw [em] at w
          exact own_body (wclO_snd h d) w i p p.below hb'
        | none =>
          rw [em] at w
          have o := sSs (wclO_snd h d C) F.body w (envI_start i) p hb'
          cases q : exs (calls T (d + m0)) F.body (MP.start F.nn vs) S with
          | bad => rw [q] at o; exact False.elim o
          | exc k v ρ3 S3 => rw [q] at o; exact False.elim o
          | fl fl S1 =>
            rw [q] at o
            cases fl with
            | nx ρ1 =>
              obtain ⟨k1, p1, δ1, en1, q1⟩ := o
              exact ⟨.non, S1, .non, rfl, k1, p1, rfl, q1⟩
            | bk ρ1 => obtain ⟨_, _, _, _, z⟩ := o; exact False.elim z
            | ct ρ1 => obtain ⟨_, _, _, _, z⟩ := o; exact False.elim z
            | rt v =>
              obtain ⟨k1, p1, d1, en1, q1⟩ := o
              exact ⟨v, S1, d1, rfl, k1, p1, en1, q1⟩
section
variable {T : List Fn} {sp : Specs} {md : Nat → Option (List Nat × List Nat)} {d f : Nat} {xs : List D} {Q : D → Prop} {F : Fn}
/-- a call, by its body -/
theorem wclO_body (hT : T[f]? = some F) (hs : sp f = none) (hm : md f = none) (hl : xs.length = F.np) (h : wpSs (wclO T sp md d) F.body (startD F.nn xs) { nx := fun _ => Q .non, rt := Q }) : wclO T sp md (d + 1) f xs Q := by
  show match sp f with
    | some w => w xs Q
    | none => match T[f]? with
      | none => False
      | some F => xs.length = F.np ∧ (match md f with
        | none => wpSs (wclO T sp md d) F.body (startD F.nn xs) { nx := fun _ => Q .non, rt := Q }
        | some om => woSs (wclO T sp md d) om.2 om.1 F.body (startD F.nn xs) [] { nx := fun _ _ => Q .non, rt := Q })
  rw [hs]
  dsimp only
  rw [hT, hm]
  exact ⟨hl, h⟩
theorem wclO_own {om : List Nat × List Nat} (hT : T[f]? = some F) (hs : sp f = none) (hm : md f = some om) (hl : xs.length = F.np) (h : woSs (wclO T sp md d) om.2 om.1 F.body (startD F.nn xs) [] { nx := fun _ _ => Q .non, rt := Q }) : wclO T sp md (d + 1) f xs Q := by
  show match sp f with
    | some w => w xs Q
    | none => match T[f]? with
      | none => False
      | some F => xs.length = F.np ∧ (match md f with
        | none => wpSs (wclO T sp md d) F.body (startD F.nn xs) { nx := fun _ => Q .non, rt := Q }
        | some om => woSs (wclO T sp md d) om.2 om.1 F.body (startD F.nn xs) [] { nx := fun _ _ => Q .non, rt := Q })
  rw [hs]
  dsimp only
  rw [hT, hm]
  exact ⟨hl, h⟩
theorem wclO_spec {w : List D → (D → Prop) → Prop} (hs : sp f = some w) (h : w xs Q) : ∀ d : Nat, wclO T sp md d f xs Q
  | 0 => by
    show match sp f with
      | some w => w xs Q
      | none => False
    rw [hs]
    exact h
  | d + 1 => by
    show match sp f with
      | some w => w xs Q
      | none => match T[f]? with
        | none => False
        | some F => xs.length = F.np ∧ (match md f with
          | none => wpSs (wclO T sp md d) F.body (startD F.nn xs) { nx := fun _ => Q .non, rt := Q }
          | some om => woSs (wclO T sp md d) om.2 om.1 F.body (startD F.nn xs) [] { nx := fun _ _ => Q .non, rt := Q })
    rw [hs]
    exact h
end
end MP
namespace MP
open PySem
/-- each element is kept, and stands in R to what it comes of -/
theorem lc_map {as : D → (PEnv → Prop) → Prop} {tt : PEnv → (Bool → Prop) → Prop} {el : PEnv → (D → Prop) → Prop} (R : D → D → Prop) {Q : D → Prop} : ∀ (xs acc : List D),
    (∀ x ∈ xs, ∀ (K : D → Prop) (F : Prop), (∀ y, R x y → K y) → as x fun δ => tt δ fun b => match b with
      | true => el δ K
      | false => F) → acc.length + xs.length ≤ lineN → (∀ ys, Paired R xs ys → Q (.lst true (acc.reverse ++ ys))) → wLc as tt el xs acc Q
  | [], acc, h, hl, q => ⟨by simpa using hl, by have := q [] .nil; rw [List.append_nil] at this; exact this⟩
  | x :: xs, acc, h, hl, q => h x List.mem_cons_self (fun y => wLc as tt el xs (y :: acc) Q) _ fun y r =>
    lc_map R xs (y :: acc) (fun z hz => h z (List.mem_cons_of_mem _ hz)) (by rw [List.length_cons] at hl ⊢; omega) fun ys hy => by
      have := q (y :: ys) (.cons r hy)
      rw [List.reverse_cons, List.append_assoc]
      exact this
/-- some are kept: p, made to f x -/
theorem lc_filt {as : D → (PEnv → Prop) → Prop} {tt : PEnv → (Bool → Prop) → Prop} {el : PEnv → (D → Prop) → Prop} (p : D → Bool) (f : D → D) {Q : D → Prop} : ∀ (xs acc : List D),
    (∀ x ∈ xs, ∀ (K : D → Prop) (F : Prop), (if p x = true then K (f x) else F) → as x fun δ => tt δ fun b => match b with
      | true => el δ K
      | false => F) → acc.length + xs.length ≤ lineN → Q (.lst true (acc.reverse ++ (xs.filter p).map f)) → wLc as tt el xs acc Q
  | [], acc, h, hl, q => ⟨by simpa using hl, by simpa using q⟩
  | x :: xs, acc, h, hl, q => by
    refine h x List.mem_cons_self (fun y => wLc as tt el xs (y :: acc) Q) _ ?_
    rw [List.length_cons] at hl
    by_cases c : p x = true
    · rw [if_pos c]
      refine lc_filt p f xs (f x :: acc) (fun z hz => h z (List.mem_cons_of_mem _ hz)) (by rw [List.length_cons]; omega) ?_
      rw [List.filter_cons, if_pos c] at q
      rw [List.reverse_cons, List.append_assoc]
      exact q
    · rw [if_neg c]
      refine lc_filt p f xs acc (fun z hz => h z (List.mem_cons_of_mem _ hz)) (by omega) ?_
      rw [List.filter_cons, if_neg c] at q
      exact q
theorem lc_det {as : D → (PEnv → Prop) → Prop} {tt : PEnv → (Bool → Prop) → Prop} {el : PEnv → (D → Prop) → Prop} (f : D → D) {Q : D → Prop} (xs : List D)
    (h : ∀ x ∈ xs, ∀ (K : D → Prop) (F : Prop), K (f x) → as x fun δ => tt δ fun b => match b with
      | true => el δ K
      | false => F) (hl : xs.length ≤ lineN) (q : Q (.lst true (xs.map f))) : wLc as tt el xs [] Q :=
  lc_filt (fun _ => true) f xs [] (fun x hx K F k => h x hx K F (by simpa using k)) (by simpa using hl) (by rw [List.filter_eq_self.mpr (fun _ _ => rfl)]; exact q)
theorem for_inv {as : D → PEnv → (PEnv → Prop) → Prop} {bd : PEnv → PEnds → Prop} {E : PEnds} (I : Nat → PEnv → Prop) (all : List D) (h : ∀ (i : Nat) (x : D) (δ : PEnv), all[i]? = some x → I i δ → ∀ K : PEnv → Prop, (∀ δ', I (i + 1) δ' → K δ') → as x δ fun δ1 => bd δ1 { nx := K, ct := K, bk := E.nx, rt := E.rt })
    (he : ∀ δ, I all.length δ → E.nx δ) : ∀ (xs : List D) (i : Nat) (δ : PEnv), (∀ j, all[i + j]? = xs[j]?) → i + xs.length = all.length → I i δ → wFor as bd xs δ E
  | [], i, δ, hx, hl, hi => he δ (by rw [← hl]; exact hi)
  | x :: xs, i, δ, hx, hl, hi => by
    refine h i x δ (by have := hx 0; simpa using this) hi (fun δ2 => wFor as bd xs δ2 E) fun δ' hi' => for_inv I all h he xs (i + 1) δ' (fun j => ?_) (by rw [List.length_cons] at hl; omega) hi'
    have := hx (j + 1)
    rw [List.getElem?_cons_succ] at this
    rw [← this]
    congr 1
    omega
theorem ofor_inv {as : D → PEnv → List Nat → (PEnv → List Nat → Prop) → Prop} {bd : PEnv → List Nat → OEnds → Prop} {E : OEnds} (I : Nat → PEnv → List Nat → Prop) (all : List D)
    (h : ∀ (i : Nat) (x : D) (δ : PEnv) (ow : List Nat), all[i]? = some x → I i δ ow → ∀ K : PEnv → List Nat → Prop, (∀ δ' ow', I (i + 1) δ' ow' → K δ' ow') → as x δ ow fun δ1 ow1 => bd δ1 ow1 { nx := K, ct := K, bk := E.nx, rt := E.rt })
    (he : ∀ δ ow, I all.length δ ow → E.nx δ ow) : ∀ (xs : List D) (i : Nat) (δ : PEnv) (ow : List Nat), (∀ j, all[i + j]? = xs[j]?) → i + xs.length = all.length → I i δ ow → woFor as bd xs δ ow E
  | [], i, δ, ow, hx, hl, hi => he δ ow (by rw [← hl]; exact hi)
  | x :: xs, i, δ, ow, hx, hl, hi => by
    refine h i x δ ow (by have := hx 0; simpa using this) hi (fun δ2 ow2 => woFor as bd xs δ2 ow2 E) fun δ' ow' hi' => ofor_inv I all h he xs (i + 1) δ' ow' (fun j => ?_) (by rw [List.length_cons] at hl; omega) hi'
    have := hx (j + 1)
    rw [List.getElem?_cons_succ] at this
    rw [← this]
    congr 1
    omega
section
variable {Q : D → Prop}
theorem int_ok (i : Int) : canon (.int i) = true := rfl
theorem wEq_int (i j : Int) : wCmp .eq (.int i) (.int j) Q ↔ Q (.bl (decide (i = j))) := by
  have e : PyData.eqv (.int i) (.int j) = decide (i = j) := by
    show (i == j) = _
    by_cases c : i = j
    · rw [decide_eq_true c]; simpa using c
    · rw [decide_eq_false c]; simpa using c
  constructor
  · rintro ⟨d, e', h1, h2, _, _, q⟩
    cases h1
    cases h2
    rw [← e]
    exact q
  · exact fun q => ⟨_, _, rfl, rfl, rfl, rfl, by rw [e]; exact q⟩
theorem wNe_int (i j : Int) : wCmp .ne (.int i) (.int j) Q ↔ Q (.bl (!decide (i = j))) := by
  have e : PyData.eqv (.int i) (.int j) = decide (i = j) := by
    show (i == j) = _
    by_cases c : i = j
    · rw [decide_eq_true c]; simpa using c
    · rw [decide_eq_false c]; simpa using c
  constructor
  · rintro ⟨d, e', h1, h2, _, _, q⟩
    cases h1
    cases h2
    rw [← e]
    exact q
  · exact fun q => ⟨_, _, rfl, rfl, rfl, rfl, by rw [e]; exact q⟩
theorem wEq_bl (a b : Bool) : wCmp .eq (.bl a) (.bl b) Q ↔ Q (.bl (a == b)) := by
  constructor
  · rintro ⟨d, e', h1, h2, _, _, q⟩
    cases h1
    cases h2
    exact q
  · exact fun q => ⟨_, _, rfl, rfl, rfl, rfl, q⟩
theorem wNe_bl (a b : Bool) : wCmp .ne (.bl a) (.bl b) Q ↔ Q (.bl (!(a == b))) := by
  constructor
  · rintro ⟨d, e', h1, h2, _, _, q⟩
    cases h1
    cases h2
    exact q
  · exact fun q => ⟨_, _, rfl, rfl, rfl, rfl, q⟩
end
theorem D.ints_map : ∀ ns : List Int, D.ints (ns.map D.int) = some ns
  | [] => rfl
  | n :: ns => by
    show (D.ints (ns.map D.int)).map (n :: ·) = _
    rw [D.ints_map ns]
    rfl
theorem D.bls_map : ∀ ns : List Bool, D.bls (ns.map D.bl) = some ns
  | [] => rfl
  | n :: ns => by
    show (D.bls (ns.map D.bl)).map (n :: ·) = _
    rw [D.bls_map ns]
    rfl
theorem datL_ints (k : Nat) : ∀ ns : List Int, D.datL (D.dat k) (ns.map D.int) = some (ns.map PyData.int)
  | [] => rfl
  | n :: ns => by
    have e : D.dat k (.int n) = some (.int n) := by cases k <;> rfl
    simp only [List.map_cons, D.datL, e, datL_ints k ns]
theorem atA_nat {α : Type} (xs : List α) (i : Nat) : atA xs (i : Int) = xs[i]? := by
  unfold atA ixI
  show (if Nat.blt i xs.length = true then some i else none).bind (fun j => xs[j]?) = _
  by_cases c : i < xs.length
  · rw [if_pos (show Nat.blt i xs.length = true from Nat.ble_eq_true_of_le c)]
    rfl
  · rw [if_neg (show ¬ Nat.blt i xs.length = true from fun z => c (Nat.le_of_ble_eq_true z)), List.getElem?_eq_none_iff.mpr (by omega)]
    rfl
theorem ixI_nat (n i : Nat) (h : i < n) : ixI n (i : Int) = some i := by
  show (if Nat.blt i n = true then some i else none) = _
  rw [if_pos (show Nat.blt i n = true from Nat.ble_eq_true_of_le h)]
theorem band_all : ∀ l : List Bool, band l = l.all id
  | [] => rfl
  | b :: r => by rw [band, band_all r, List.all_cons]; rfl
theorem isum_sum : ∀ l : List Int, isum l = l.sum
  | [] => rfl
  | a :: r => by rw [isum, isum_sum r, List.sum_cons]
theorem small_line {n : Nat} (h : n ≤ 100000) : n ≤ lineN := Nat.le_trans h (Nat.le_of_ble_eq_true rfl)
theorem small_LF {n : Nat} (h : n ≤ 100000) : n < LF := Nat.lt_of_le_of_lt h (Nat.lt_of_lt_of_le (by decide : 100000 < 100001) (Nat.le_of_ble_eq_true rfl))
theorem enum_get (xs : List D) (i : Nat) : (enumD xs 0)[i]? = (xs[i]?).map fun d => .tup [.int (i : Int), d] := by
  rw [enum_at]
  simp
theorem enum_len : ∀ (xs : List D) (k : Nat), (enumD xs k).length = xs.length
  | [], _ => rfl
  | _ :: xs, k => by rw [enumD, List.length_cons, enum_len xs (k + 1), List.length_cons]
theorem WR :
  (∀ (wc : WCl) (δ : PEnv) (Q : D → Prop), wpE wc .non δ Q = Q .non) ∧
  (∀ (wc : WCl) (δ : PEnv) (Q : D → Prop) (b : Bool), wpE wc (.bl b) δ Q = Q (.bl b)) ∧
  (∀ (wc : WCl) (δ : PEnv) (Q : D → Prop) (i : Int), wpE wc (.int i) δ Q = Q (.int i)) ∧
  (∀ (wc : WCl) (δ : PEnv) (Q : D → Prop) (s : List Nat), wpE wc (.str s) δ Q = Q (.str ⟨s.toArray⟩)) ∧
  (∀ (wc : WCl) (δ : PEnv) (Q : D → Prop) (i : Nat), wpE wc (.var i) δ Q = ∃ d, δ[i]? = some (some d) ∧ Q d) ∧
  (∀ (wc : WCl) (δ : PEnv) (Q : D → Prop) (o : Op2) (a b : E), wpE wc (.bin o a b) δ Q = wpE wc a δ fun x => wpE wc b δ fun y => wBin o x y Q) ∧
  (∀ (wc : WCl) (δ : PEnv) (Q : D → Prop) (a : E), wpE wc (.neg a) δ Q = wpE wc a δ fun x => ∃ i, x = .int i ∧ Q (.int (-i))) ∧
  (∀ (wc : WCl) (δ : PEnv) (Q : D → Prop) (a : E), wpE wc (.not a) δ Q = wpE wc a δ fun x => ∃ b, x.tru = some b ∧ Q (.bl (!b))) ∧
  (∀ (wc : WCl) (δ : PEnv) (Q : D → Prop) (a b : E), wpE wc (.and a b) δ Q = wpE wc a δ fun x => ∃ t, x = .bl t ∧ (match t with | true => wpE wc b δ Q | false => Q (.bl false))) ∧
  (∀ (wc : WCl) (δ : PEnv) (Q : D → Prop) (a b : E), wpE wc (.or a b) δ Q = wpE wc a δ fun x => ∃ t, x = .bl t ∧ (match t with | true => Q (.bl true) | false => wpE wc b δ Q)) ∧
  (∀ (wc : WCl) (δ : PEnv) (Q : D → Prop) (c : Cm) (a b : E), wpE wc (.cmp c a b) δ Q = wpE wc a δ fun x => wpE wc b δ fun y => wCmp c x y Q) ∧
  (∀ (wc : WCl) (δ : PEnv) (Q : D → Prop) (c d : Cm) (a b e : E), wpE wc (.chn c d a b e) δ Q = wpE wc a δ fun x => wpE wc b δ fun y => wCmp c x y fun z => ∃ t, z = .bl t ∧ (match t with | true => wpE wc e δ fun u => wCmp d y u Q | false => Q (.bl false))) ∧
  (∀ (wc : WCl) (δ : PEnv) (Q : D → Prop) (c : Tt) (a b : E), wpE wc (.ite c a b) δ Q = wpT wc c δ fun t => match t with | true => wpE wc a δ Q | false => wpE wc b δ Q) ∧
  (∀ (wc : WCl) (δ : PEnv) (Q : D → Prop) (es : Es), wpE wc (.lst es) δ Q = wpA wc es δ fun xs => xs.length ≤ lineN ∧ Q (.lst true xs)) ∧
  (∀ (wc : WCl) (δ : PEnv) (Q : D → Prop) (es : Es), wpE wc (.tup es) δ Q = wpA wc es δ fun xs => xs.length ≤ lineN ∧ Q (.tup xs)) ∧
  (∀ (wc : WCl) (δ : PEnv) (Q : D → Prop) (a b : E), wpE wc (.sub a b) δ Q = wpE wc a δ fun x => wpE wc b δ fun y => wSub x y Q) ∧
  (∀ (wc : WCl) (δ : PEnv) (Q : D → Prop) (a lo hi : E), wpE wc (.cut a lo hi) δ Q = wpE wc a δ fun x => wpP (isBad lo) (wpE wc lo δ) fun l => wpP (isBad hi) (wpE wc hi δ) fun h => wCut x l h Q) ∧
  (∀ (wc : WCl) (δ : PEnv) (Q : D → Prop) (f : Nat) (es : Es) (dv : List Vl), wpE wc (.call f es dv) δ Q = wpA wc es δ fun xs => ∃ ds, dvD dv = some ds ∧ wc f (xs ++ ds) Q) ∧
  (∀ (wc : WCl) (δ : PEnv) (Q : D → Prop) (f : Nat) (es ks : Es) (pm : List Nat), wpE wc (.callK f es ks pm) δ Q = wpA wc es δ fun xs => wpA wc ks δ fun ys => ∃ zs, mapAtD (xs ++ ys) pm = some zs ∧ wc f zs Q) ∧
  (∀ (wc : WCl) (δ : PEnv) (Q : D → Prop) (b : Bi) (es : Es), wpE wc (.bi b es) δ Q = wpA wc es δ fun xs => wBi b xs Q) ∧
  (∀ (wc : WCl) (δ : PEnv) (Q : D → Prop) (a : E) (ts : List BT) (one : Bool), wpE wc (.isi a ts one) δ Q = wpE wc a δ fun x => ∃ t, x.bt = some t ∧ Q (.bl (anyBT t ts))) ∧
  (∀ (wc : WCl) (δ : PEnv) (Q : D → Prop) (m : Mt) (a : E) (es : Es), wpE wc (.mt m a es) δ Q = wpE wc a δ fun x => (match m with | .bitLength => True | _ => x.lsq.isSome = true) ∧ wpA wc es δ fun xs => wMt m x xs Q) ∧
  (∀ (wc : WCl) (δ : PEnv) (Q : D → Prop) (own : List Nat) (tg : Tg) (it : MP.It) (ifs : Tt) (elt : E), wpE wc (.lc own tg it ifs elt) δ Q = wpI wc it δ fun xs => xs.length < LF ∧ wLc (fun x K => wpG wc tg x (wipeD δ own) K) (fun δ' K => wpT wc ifs δ' K) (fun δ' K => wpE wc elt δ' K) xs [] Q) ∧
  (∀ (wc : WCl) (δ : PEnv) (Q : D → Prop), wpE wc .dict0 δ Q = Q .dct) ∧
  (∀ (wc : WCl) (δ : PEnv) (Q : D → Prop) (es : Es), wpE wc (.lrg es) δ Q = wpA wc es δ fun xs => wRng xs fun ys => ys.length ≤ lineN ∧ Q (.lst true ys)) ∧
  (∀ (wc : WCl) (δ : PEnv) (Q : List D → Prop), wpA wc .nil δ Q = Q []) ∧
  (∀ (wc : WCl) (δ : PEnv) (Q : List D → Prop) (e : E) (r : Es), wpA wc (.cons e r) δ Q = wpE wc e δ fun x => wpA wc r δ fun xs => Q (x :: xs)) ∧
  (∀ (wc : WCl) (δ : PEnv) (Q : Bool → Prop), wpT wc .yes δ Q = Q true) ∧
  (∀ (wc : WCl) (δ : PEnv) (Q : Bool → Prop) (a : Tt), wpT wc (.not a) δ Q = wpT wc a δ fun b => Q (!b)) ∧
  (∀ (wc : WCl) (δ : PEnv) (Q : Bool → Prop) (a b : Tt), wpT wc (.and a b) δ Q = wpT wc a δ fun t => match t with | true => wpT wc b δ Q | false => Q false) ∧
  (∀ (wc : WCl) (δ : PEnv) (Q : Bool → Prop) (a b : Tt), wpT wc (.or a b) δ Q = wpT wc a δ fun t => match t with | true => Q true | false => wpT wc b δ Q) ∧
  (∀ (wc : WCl) (δ : PEnv) (Q : Bool → Prop) (c : Cm) (a b : E), wpT wc (.cmp c a b) δ Q = wpE wc a δ fun x => wpE wc b δ fun y => wCmp c x y fun z => ∃ t, z = .bl t ∧ Q t) ∧
  (∀ (wc : WCl) (δ : PEnv) (Q : Bool → Prop) (c d : Cm) (a b e : E), wpT wc (.chn c d a b e) δ Q = wpE wc a δ fun x => wpE wc b δ fun y => wCmp c x y fun z => ∃ t, z = .bl t ∧ (match t with | true => wpE wc e δ fun u => wCmp d y u fun w => ∃ r, w = .bl r ∧ Q r | false => Q false)) ∧
  (∀ (wc : WCl) (δ : PEnv) (Q : Bool → Prop) (e : E), wpT wc (.val e) δ Q = wpE wc e δ fun x => ∃ b, x.tru = some b ∧ Q b) ∧
  (∀ (wc : WCl) (d : D) (δ : PEnv) (Q : PEnv → Prop) (i : Nat), wpG wc (.name i) d δ Q = Q (δ.set i (some d))) ∧
  (∀ (wc : WCl) (d : D) (δ : PEnv) (Q : PEnv → Prop) (ts : Tgs), wpG wc (.tup ts) d δ Q = ∃ xs, d.seq = some xs ∧ xs.length = ts.len ∧ wpGs wc ts xs δ Q) ∧
  (∀ (wc : WCl) (δ : PEnv) (Q : PEnv → Prop), wpGs wc .nil [] δ Q = Q δ) ∧
  (∀ (wc : WCl) (δ : PEnv) (Q : PEnv → Prop) (t : Tg) (r : Tgs) (x : D) (xs : List D), wpGs wc (.cons t r) (x :: xs) δ Q = wpG wc t x δ fun δ1 => wpGs wc r xs δ1 Q) ∧
  (∀ (wc : WCl) (δ : PEnv) (Q : List D → Prop) (e : E), wpI wc (.seq e) δ Q = wpE wc e δ fun x => ∃ xs, x.itm = some xs ∧ Q xs) ∧
  (∀ (wc : WCl) (δ : PEnv) (Q : List D → Prop) (es : Es), wpI wc (.rng es) δ Q = wpA wc es δ fun xs => wRng xs Q) ∧
  (∀ (wc : WCl) (δ : PEnv) (Q : List D → Prop) (e : E), wpI wc (.enum e) δ Q = wpE wc e δ fun x => ∃ xs, x.lsq = some xs ∧ Q (enumD xs 0)) ∧
  (∀ (wc : WCl) (δ : PEnv) (Q : List D → Prop) (a b : E), wpI wc (.zip a b) δ Q = wpE wc a δ fun x => wpE wc b δ fun y => (match x, y with | .lst _ xs, .lst _ ys => Q (zipD xs ys) | .tup xs, .tup ys => Q (zipD xs ys) | _, _ => False)) ∧
  (∀ (wc : WCl) (δ : PEnv) (E : PEnds), wpS wc .pass δ E = E.nx δ) ∧
  (∀ (wc : WCl) (δ : PEnv) (E : PEnds) (e : MP.E), wpS wc (.expr e) δ E = wpE wc e δ fun _ => E.nx δ) ∧
  (∀ (wc : WCl) (δ : PEnv) (E : PEnds) (t : Tg) (e : MP.E), wpS wc (.asg t e) δ E = wpE wc e δ fun d => wpG wc t d δ E.nx) ∧
  (∀ (wc : WCl) (δ : PEnv) (E : PEnds) (i j : Nat) (a b : MP.E), wpS wc (.par i j a b) δ E = wpE wc a δ fun x => wpE wc b δ fun y => E.nx ((δ.set i (some x)).set j (some y))) ∧
  (∀ (wc : WCl) (δ : PEnv) (E : PEnds) (e : MP.E), wpS wc (.ret e) δ E = wpE wc e δ E.rt) ∧
  (∀ (wc : WCl) (δ : PEnv) (E : PEnds), wpS wc .retN δ E = E.rt .non) ∧
  (∀ (wc : WCl) (δ : PEnv) (E : PEnds) (c : Tt) (a b : Ss), wpS wc (.ite c a b) δ E = wpT wc c δ fun t => match t with | true => wpSs wc a δ E | false => wpSs wc b δ E) ∧
  (∀ (wc : WCl) (δ : PEnv) (E : PEnds) (t : Tg) (it : MP.It) (b : Ss), wpS wc (.forr t it b) δ E = wpI wc it δ fun xs => xs.length < LF ∧ wFor (fun x δ' K => wpG wc t x δ' K) (fun δ' E' => wpSs wc b δ' E') xs δ E) ∧
  (∀ (wc : WCl) (δ : PEnv) (E : PEnds), wpS wc .brk δ E = E.bk δ) ∧
  (∀ (wc : WCl) (δ : PEnv) (E : PEnds), wpS wc .cnt δ E = E.ct δ) := by
  refine ⟨?_, ?_, ?_, ?_, ?_, ?_, ?_, ?_, ?_, ?_, ?_, ?_, ?_, ?_, ?_, ?_, ?_, ?_, ?_, ?_, ?_, ?_, ?_, ?_, ?_, ?_, ?_, ?_, ?_, ?_, ?_, ?_, ?_, ?_, ?_, ?_, ?_, ?_, ?_, ?_, ?_, ?_, ?_, ?_, ?_, ?_, ?_, ?_, ?_, ?_, ?_, ?_⟩ <;> intros <;> rfl
theorem WRS :
  (∀ (wc : WCl) (δ : PEnv) (E : PEnds), wpSs wc .nil δ E = E.nx δ) ∧
  (∀ (wc : WCl) (δ : PEnv) (E : PEnds) (s : Sm) (r : Ss), wpSs wc (.cons s r) δ E = wpS wc s δ { E with nx := fun δ1 => wpSs wc r δ1 E }) := by
  refine ⟨?_, ?_⟩ <;> intros <;> rfl
theorem WO :
  (∀ (Q : D → Prop) (i j : Int), wBin .add (.int i) (.int j) Q = Q (.int (i + j))) ∧
  (∀ (Q : D → Prop) (i j : Int), wBin .sub (.int i) (.int j) Q = Q (.int (i - j))) ∧
  (∀ (Q : D → Prop) (i j : Int), wBin .mul (.int i) (.int j) Q = (mulOk i j = true ∧ Q (.int (i * j)))) ∧
  (∀ (Q : D → Prop) (i j : Int), wBin .mod (.int i) (.int j) Q = (j ≠ 0 ∧ Q (.int (i.fmod j)))) ∧
  (∀ (Q : D → Prop) (i j : Int), wBin .fdiv (.int i) (.int j) Q = ((j ≠ 0 ∧ Builtin.divisionGoesByPylong i j = false) ∧ Q (.int (i.fdiv j)))) ∧
  (∀ (Q : D → Prop) (t u : Bool) (xs ys : List D), wBin .add (.lst t xs) (.lst u ys) Q = (xs.length + ys.length ≤ lineN ∧ Q (.lst true (xs ++ ys)))) ∧
  (∀ (Q : D → Prop) (t : Bool) (xs : List D) (k : Int), wBin .mul (.lst t xs) (.int k) Q = ((-(2 ^ 62) ≤ k ∧ k < 2 ^ 62 ∧ xs.length * k.toNat ≤ lineN) ∧ Q (.lst true (repA xs k.toNat)))) ∧
  (∀ (Q : D → Prop) (i j : Int), wCmp .lt (.int i) (.int j) Q = Q (.bl (decide (i < j)))) ∧
  (∀ (Q : D → Prop) (i j : Int), wCmp .le (.int i) (.int j) Q = Q (.bl (decide (i ≤ j)))) ∧
  (∀ (Q : D → Prop) (i j : Int), wCmp .gt (.int i) (.int j) Q = Q (.bl (decide (j < i)))) ∧
  (∀ (Q : D → Prop) (i j : Int), wCmp .ge (.int i) (.int j) Q = Q (.bl (decide (j ≤ i)))) ∧
  (∀ (Q : D → Prop) (a b : Bool), wCmp .is_ (.bl a) (.bl b) Q = Q (.bl (a == b))) ∧
  (∀ (Q : D → Prop) (a b : Bool), wCmp .isn (.bl a) (.bl b) Q = Q (.bl (!(a == b)))) ∧
  (∀ (Q : D → Prop) (t : Bool) (xs : List D) (i : Int), wSub (.lst t xs) (.int i) Q = ∃ d, atA xs i = some d ∧ Q d) ∧
  (∀ (Q : D → Prop) (xs : List D) (i : Int), wSub (.tup xs) (.int i) Q = ∃ d, atA xs i = some d ∧ Q d) ∧
  (∀ (Q : D → Prop) (t : Bool) (xs : List D) (lo hi : Option Int), wCut (.lst t xs) lo hi Q = Q (.lst true (cutA xs lo hi))) ∧
  (∀ (Q : D → Prop) (x : D), wBi .len [x] Q = ∃ n, x.ln = some n ∧ Q (.int n)) ∧
  (∀ (Q : D → Prop) (i j : Int), wBi .max2 [.int i, .int j] Q = Q (.int (if i < j then j else i))) ∧
  (∀ (Q : D → Prop) (i j : Int), wBi .min2 [.int i, .int j] Q = Q (.int (if j < i then j else i))) ∧
  (∀ (Q : D → Prop) (i : Int), wBi .abs [.int i] Q = Q (.int (if i < 0 then -i else i))) ∧
  (∀ (Q : D → Prop) (i : Int), wBi .int1 [.int i] Q = Q (.int i)) ∧
  (∀ (Q : D → Prop) (b : Bool), wBi .int1 [.bl b] Q = Q (.int (if b then 1 else 0))) ∧
  (∀ (Q : D → Prop) (x : D), wBi .all [x] Q = ∃ bs, x.lsq.bind D.bls = some bs ∧ Q (.bl (band bs))) ∧
  (∀ (Q : D → Prop) (x : D), wBi .any [x] Q = ∃ bs, x.lsq.bind D.bls = some bs ∧ Q (.bl (bor bs))) ∧
  (∀ (Q : D → Prop) (x : D), wBi .sum [x] Q = ∃ ns, x.lsq.bind D.ints = some ns ∧ Q (.int (isum ns))) ∧
  (∀ (Q : D → Prop) (x : D), wBi .max1 [x] Q = ∃ n ns, x.lsq.bind D.ints = some (n :: ns) ∧ Q (.int (imax n ns))) ∧
  (∀ (Q : D → Prop) (x : D), wBi .min1 [x] Q = ∃ n ns, x.lsq.bind D.ints = some (n :: ns) ∧ Q (.int (imin n ns))) ∧
  (∀ (Q : D → Prop) (x : D), wBi .sorted [x] Q = ∃ ns, x.lsq.bind D.ints = some ns ∧ Q (.lst true ((isort ns).map .int))) ∧
  (∀ (Q : D → Prop) (x : D), wBi .list [x] Q = ∃ xs, x.seq = some xs ∧ Q (.lst true xs)) ∧
  (∀ (Q : D → Prop) (t : Bool) (xs : List D), wBi .tuple [.lst t xs] Q = Q (.tup xs)) ∧
  (∀ (Q : D → Prop) (xs : List D), wBi .tuple [.tup xs] Q = Q (.tup xs)) ∧
  (∀ (Q : D → Prop) (x : D), wBi .repr [x] Q = ∃ d, x.dat 60 = some d ∧ smallD d = true ∧ (reprD d).length ≤ lineN ∧ Q (.str (reprD d))) ∧
  (∀ (Q : D → Prop) (x : D) (k : Int), wMt .count x [.int k] Q = ∃ ns, x.lsq.bind D.ints = some ns ∧ Q (.int (icount k ns))) ∧
  (∀ (Q : List D → Prop) (j : Int), wRng [.int j] Q = ((-(2 ^ 62) ≤ j ∧ j < 2 ^ 62) ∧ Q ((List.range j.toNat).map fun i => .int (0 + (i : Nat))))) ∧
  (∀ (Q : List D → Prop) (i j : Int), wRng [.int i, .int j] Q = ((-(2 ^ 62) ≤ i ∧ i < 2 ^ 62 ∧ -(2 ^ 62) ≤ j ∧ j < 2 ^ 62) ∧ Q ((List.range (j - i).toNat).map fun n => .int (i + (n : Nat))))) ∧
  (∀ (Q : Option Int → Prop) (w : (D → Prop) → Prop), wpP true w Q = Q none) ∧
  (∀ (Q : Option Int → Prop) (w : (D → Prop) → Prop), wpP false w Q = w fun x => ∃ i, x = .int i ∧ Q (some i)) ∧
  (D.tru D.non = some false) ∧
  (∀ (b : Bool), D.tru (.bl b) = some b) ∧
  (∀ (i : Int), D.tru (.int i) = some (i != 0)) ∧
  (∀ (b : Bool) (xs : List D), D.tru (.lst b xs) = some (!xs.isEmpty)) ∧
  (∀ (xs : List D), D.tru (.tup xs) = some (!xs.isEmpty)) ∧
  (D.tru D.dct = some false) ∧
  (∀ (b : Bool) (xs : List D), D.ln (.lst b xs) = some xs.length) ∧
  (∀ (xs : List D), D.ln (.tup xs) = some xs.length) ∧
  (D.bt D.non = some BT.none) ∧
  (∀ (b : Bool), D.bt (.bl b) = some BT.bool) ∧
  (∀ (i : Int), D.bt (.int i) = some BT.int) ∧
  (∀ (s : Str), D.bt (.str s) = some BT.str) ∧
  (∀ (b : Bool) (xs : List D), D.bt (.lst b xs) = some BT.list) ∧
  (∀ (xs : List D), D.bt (.tup xs) = some BT.tuple) ∧
  (D.bt D.dct = some BT.dict) ∧
  (∀ (b : Bool) (xs : List D), D.seq (.lst b xs) = some xs) ∧
  (∀ (xs : List D), D.seq (.tup xs) = some xs) ∧
  (∀ (b : Bool) (xs : List D), D.lsq (.lst b xs) = some xs) ∧
  (∀ (b : Bool) (xs : List D), D.itm (.lst b xs) = some xs) ∧
  (∀ (xs : List D), D.itm (.tup xs) = some xs) ∧
  (subBT .none .none = true) ∧
  (subBT .none .bool = false) ∧
  (subBT .none .int = false) ∧
  (subBT .none .str = false) ∧
  (subBT .none .list = false) ∧
  (subBT .none .tuple = false) ∧
  (subBT .none .dict = false) ∧
  (subBT .bool .none = false) ∧
  (subBT .bool .bool = true) ∧
  (subBT .bool .int = true) ∧
  (subBT .bool .str = false) ∧
  (subBT .bool .list = false) ∧
  (subBT .bool .tuple = false) ∧
  (subBT .bool .dict = false) ∧
  (subBT .int .none = false) ∧
  (subBT .int .bool = false) ∧
  (subBT .int .int = true) ∧
  (subBT .int .str = false) ∧
  (subBT .int .list = false) ∧
  (subBT .int .tuple = false) ∧
  (subBT .int .dict = false) ∧
  (subBT .str .none = false) ∧
  (subBT .str .bool = false) ∧
  (subBT .str .int = false) ∧
  (subBT .str .str = true) ∧
  (subBT .str .list = false) ∧
  (subBT .str .tuple = false) ∧
  (subBT .str .dict = false) ∧
  (subBT .list .none = false) ∧
  (subBT .list .bool = false) ∧
  (subBT .list .int = false) ∧
  (subBT .list .str = false) ∧
  (subBT .list .list = true) ∧
  (subBT .list .tuple = false) ∧
  (subBT .list .dict = false) ∧
  (subBT .tuple .none = false) ∧
  (subBT .tuple .bool = false) ∧
  (subBT .tuple .int = false) ∧
  (subBT .tuple .str = false) ∧
  (subBT .tuple .list = false) ∧
  (subBT .tuple .tuple = true) ∧
  (subBT .tuple .dict = false) ∧
  (subBT .dict .none = false) ∧
  (subBT .dict .bool = false) ∧
  (subBT .dict .int = false) ∧
  (subBT .dict .str = false) ∧
  (subBT .dict .list = false) ∧
  (subBT .dict .tuple = false) ∧
  (subBT .dict .dict = true) := by
  refine ⟨?_, ?_, ?_, ?_, ?_, ?_, ?_, ?_, ?_, ?_, ?_, ?_, ?_, ?_, ?_, ?_, ?_, ?_, ?_, ?_, ?_, ?_, ?_, ?_, ?_, ?_, ?_, ?_, ?_, ?_, ?_, ?_, ?_, ?_, ?_, ?_, ?_, ?_, ?_, ?_, ?_, ?_, ?_, ?_, ?_, ?_, ?_, ?_, ?_, ?_, ?_, ?_, ?_, ?_, ?_, ?_, ?_, ?_, ?_, ?_, ?_, ?_, ?_, ?_, ?_, ?_, ?_, ?_, ?_, ?_, ?_, ?_, ?_, ?_, ?_, ?_, ?_, ?_, ?_, ?_, ?_, ?_, ?_, ?_, ?_, ?_, ?_, ?_, ?_, ?_, ?_, ?_, ?_, ?_, ?_, ?_, ?_, ?_, ?_, ?_, ?_, ?_, ?_, ?_, ?_, ?_⟩ <;> intros <;> rfl
theorem WL :
  (∀ (a : D) (l : List D), (a :: l)[0]? = some a) ∧
  (∀ (a : D) (l : List D) (i : Nat), (a :: l)[i + 1]? = l[i]?) ∧
  (∀ (a : Option D) (l : PEnv), (a :: l)[0]? = some a) ∧
  (∀ (a : Option D) (l : PEnv) (i : Nat), (a :: l)[i + 1]? = l[i]?) ∧
  (∀ (a b : Option D) (l : PEnv), (a :: l).set 0 b = b :: l) ∧
  (∀ (a b : Option D) (l : PEnv) (i : Nat), (a :: l).set (i + 1) b = a :: l.set i b) ∧
  (∀ (nn : Nat) (xs : List D), startD nn xs = xs.map some ++ List.replicate (nn - xs.length) none) := by
  refine ⟨?_, ?_, ?_, ?_, ?_, ?_, ?_⟩ <;> intros <;> first | rfl | simp
theorem nat_beq (a b : Nat) : Nat.beq a b = (a == b) := by
  cases h : Nat.beq a b with
  | false =>
    symm
    rw [beq_eq_false_iff_ne]
    intro e
    subst e
    rw [Nat.beq_refl] at h
    cases h
  | true =>
    rw [Nat.eq_of_beq_eq_true h]
    simp
theorem wo_step {wc : WCl} {dm om : List Nat} {s : Sm} {r : Ss} {δ : PEnv} {ow : List Nat} {E : OEnds} : woSs wc dm om (.cons s r) δ ow E = woS wc dm om s δ ow { E with nx := fun δ1 ow1 => woSs wc dm om r δ1 ow1 E } := rfl
theorem wo_nil {wc : WCl} {dm om : List Nat} {δ : PEnv} {ow : List Nat} {E : OEnds} : woSs wc dm om .nil δ ow E = E.nx δ ow := rfl
theorem wp_step {wc : WCl} {s : Sm} {r : Ss} {δ : PEnv} {E : PEnds} : wpSs wc (.cons s r) δ E = wpS wc s δ { E with nx := fun δ1 => wpSs wc r δ1 E } := rfl
/-- a comprehension over range(n) -/
theorem lc_rng {as : D → (PEnv → Prop) → Prop} {tt : PEnv → (Bool → Prop) → Prop} {el : PEnv → (D → Prop) → Prop} {Q : D → Prop} {n : Nat} (f : Nat → D) (hl : n ≤ 100000)
    (h : ∀ i : Nat, i < n → ∀ (K : D → Prop) (F : Prop), K (f i) → as (.int (i : Int)) fun δ => tt δ fun b => match b with
      | true => el δ K
      | false => F) (q : Q (.lst true ((List.range n).map f))) : wLc as tt el ((List.range n).map fun i : Nat => D.int (i : Int)) [] Q := by
  refine lc_det (fun y => match y with | .int i => f i.toNat | _ => .non) _ (fun y hy K F k => ?_) (by simpa using small_line hl) ?_
  · obtain ⟨l, hl, rfl⟩ := List.mem_map.mp hy
    exact h l (List.mem_range.mp hl) K F k
  · rw [List.map_map]
    exact q
theorem lc_rngR {as : D → (PEnv → Prop) → Prop} {tt : PEnv → (Bool → Prop) → Prop} {el : PEnv → (D → Prop) → Prop} {Q : D → Prop} {n : Nat} (R : Nat → D → Prop) (hl : n ≤ 100000)
    (h : ∀ i : Nat, i < n → ∀ (K : D → Prop) (F : Prop), (∀ y, R i y → K y) → as (.int (i : Int)) fun δ => tt δ fun b => match b with
      | true => el δ K
      | false => F) (q : ∀ ys : List D, ys.length = n → (∀ i y, ys[i]? = some y → R i y) → Q (.lst true ys)) : wLc as tt el ((List.range n).map fun i : Nat => D.int (i : Int)) [] Q := by
  refine lc_map (fun x y => ∃ i : Nat, x = .int (i : Int) ∧ R i y) _ [] (fun y hy K F k => ?_) (by simpa using small_line hl) fun ys hp => ?_
  · obtain ⟨l, hl, rfl⟩ := List.mem_map.mp hy
    exact h l (List.mem_range.mp hl) K F fun y r => k y ⟨l, rfl, r⟩
  · rw [List.reverse_nil, List.nil_append]
    refine q ys (by rw [← Paired.len hp]; simp) fun i y hy => ?_
    cases e : ((List.range n).map fun i : Nat => D.int (i : Int))[i]? with
    | none =>
      have := Paired.at0 hp e
      rw [hy] at this
      cases this
    | some x =>
      obtain ⟨y', h1, j, h2, h3⟩ := Paired.at1 hp e
      rw [hy] at h1
      cases h1
      rw [List.getElem?_map] at e
      cases e2 : (List.range n)[i]? with
      | none => rw [e2] at e; cases e
      | some k =>
        rw [e2] at e
        obtain ⟨h4, h5⟩ := List.getElem?_eq_some_iff.mp e2
        rw [List.getElem_range] at h5
        subst h5
        have e := Option.some.inj e
        rw [h2] at e
        have e := D.int.inj e
        have : i = j := by omega
        rw [this]
        exact h3
theorem repA_one {α : Type} (x : α) : ∀ k : Nat, repA [x] k = List.replicate k x
  | 0 => rfl
  | k + 1 => by rw [repA, repA_one x k, List.replicate_succ]; rfl
end MP
namespace MP
open PySem
mutual
def numD : PyData → Bool
  | .int i => decide (i.natAbs < 10 ^ 12)
  | .list ds => numDs ds
  | .tuple ds => numDs ds
  | .dict _ => false
  | .str _ => false
  | _ => true
def numDs : List PyData → Bool
  | [] => true
  | d :: ds => numD d && numDs ds
end
mutual
def rz : PyData → Nat
  | .list ds => rzL ds + 3
  | .tuple ds => rzL ds + 3
  | _ => 13
def rzL : List PyData → Nat
  | [] => 0
  | d :: ds => rz d + 2 + rzL ds
end
theorem reprs_len : ∀ ds : List PyData, (reprs ds).length = ds.length
  | [] => rfl
  | d :: ds => by unfold reprs; rw [List.length_cons, reprs_len ds, List.length_cons]
theorem int_len {i : Int} (h : i.natAbs < 10 ^ 12) : (Str.ofString (toString i)).length ≤ 13 := PySem.PyData.shown_int_le h
mutual
theorem repr_len : ∀ d : PyData, numD d = true → (reprD d).length ≤ rz d
  | .none, _ => by decide +kernel
  | .bool true, _ => by decide +kernel
  | .bool false, _ => by decide +kernel
  | .int i, h => int_len (of_decide_eq_true h)
  | .str _, h => by cases h
  | .dict _, h => by cases h
  | .list [], _ => by decide +kernel
  | .list (d :: ds), h => by
    have e : reprD (.list (d :: ds)) = listText (reprs (d :: ds)) := rfl
    have l := listText_len_le (reprs (d :: ds))
    have k := reprs_le (d :: ds) h
    rw [e]
    show _ ≤ rzL (d :: ds) + 3
    omega
  | .tuple ds, h => by
    have e : reprD (.tuple ds) = tupleText (reprs ds) := rfl
    have l := tupleText_len_le (reprs ds)
    have k := reprs_le ds h
    rw [e]
    show _ ≤ rzL ds + 3
    omega
theorem reprs_le : ∀ ds : List PyData, numDs ds = true → ((reprs ds).map (·.length)).sum + 2 * (reprs ds).length ≤ rzL ds
  | [], _ => Nat.le_refl 0
  | d :: ds, h => by
    obtain ⟨h1, h2⟩ := and2 h
    have a := repr_len d h1
    have b := reprs_le ds h2
    have e1 : ((reprs (d :: ds)).map (·.length)).sum = (reprD d).length + ((reprs ds).map (·.length)).sum := by
      show ((reprD d :: reprs ds).map (·.length)).sum = _
      rw [List.map_cons, List.sum_cons]
    have e2 : (reprs (d :: ds)).length = (reprs ds).length + 1 := rfl
    have e3 : rzL (d :: ds) = rz d + 2 + rzL ds := rfl
    omega
end
def okCp (s : Str) : Prop := ∀ c ∈ s.cps.toList, c < 1114112
theorem okCp_str {s : Str} (h : okCp s) : PyData.strOk s = true := by
  unfold PyData.strOk
  rw [← Array.all_toList, List.all_eq_true]
  exact fun c hc => decide_eq_true (h c hc)
theorem okCp_app {a b : Str} (h : okCp a) (k : okCp b) : okCp (a ++ b) := fun c hc => by
  rw [Str.cps_append, Array.toList_append] at hc
  rcases List.mem_append.mp hc with q | q
  · exact h c q
  · exact k c q
theorem okCp_of (s : String) : okCp (Str.ofString s) := fun c hc => by
  rw [Str.ofString_eq_toList] at hc
  have hc : c ∈ s.toList.map Char.toNat := by simpa using hc
  obtain ⟨x, _, rfl⟩ := List.mem_map.mp hc
  have h := x.valid
  simp only [UInt32.isValidChar, Nat.isValidChar] at h
  show x.val.toNat < 1114112
  omega
theorem okCp_from : ∀ (ts : List Str) (k : Nat) (acc : Str), okCp acc → (∀ t ∈ ts, okCp t) → okCp (textFrom k acc ts)
  | [], _, acc, h, _ => h
  | t :: ts, k, acc, h, hs => by
    show okCp (textFrom (k + 1) (acc ++ (if k > 0 then ", " else "" : String) ++ t) ts)
    refine okCp_from ts (k + 1) _ (okCp_app (okCp_app h (okCp_of _)) (hs t List.mem_cons_self)) fun u hu => hs u (List.mem_cons_of_mem _ hu)
theorem okCp_join (sep : Str) (hs : okCp sep) : ∀ ts : List Str, (∀ t ∈ ts, okCp t) → okCp (Str.join sep ts)
  | [], _ => fun c hc => by simp [Str.join, Str.empty] at hc
  | [x], h => h x List.mem_cons_self
  | x :: y :: r, h => by
    show okCp (x ++ sep ++ Str.join sep (y :: r))
    exact okCp_app (okCp_app (h x List.mem_cons_self) hs) (okCp_join sep hs (y :: r) fun t ht => h t (List.mem_cons_of_mem _ ht))
mutual
theorem okCp_repr : ∀ d : PyData, numD d = true → okCp (reprD d)
  | .none, _ => okCp_of _
  | .bool true, _ => okCp_of _
  | .bool false, _ => okCp_of _
  | .int i, h => okCp_of _
  | .str _, h => by cases h
  | .dict _, h => by cases h
  | .list [], _ => okCp_of _
  | .list (d :: ds), h => by
    show okCp (textFrom 0 (Str.ofString "[") (reprs (d :: ds)) ++ Str.ofString "]")
    exact okCp_app (okCp_from _ _ _ (okCp_of _) (okCp_reprs _ h)) (okCp_of _)
  | .tuple ds, h => by
    show okCp (Str.ofString "(" ++ Str.join (Str.ofString ", ") (reprs ds) ++ Str.ofString (if (reprs ds).length == 1 then ",)" else ")"))
    exact okCp_app (okCp_app (okCp_of _) (okCp_join _ (okCp_of _) _ (okCp_reprs ds h))) (okCp_of _)
theorem okCp_reprs : ∀ ds : List PyData, numDs ds = true → ∀ t ∈ reprs ds, okCp t
  | [], _ => fun t ht => (List.not_mem_nil ht).elim
  | d :: ds, h => fun t ht => by
    obtain ⟨h1, h2⟩ := and2 h
    rcases List.mem_cons.mp ht with e | ht
    · rw [e]; exact okCp_repr d h1
    · exact okCp_reprs ds h2 t ht
end
mutual
theorem small_num : ∀ d : PyData, numD d = true → smallD d = true
  | .none, _ => rfl
  | .bool _, _ => rfl
  | .int i, h => by
    have h : i.natAbs < 10 ^ 12 := of_decide_eq_true h
    show Nat.blt i.natAbs.log2 1920 = true
    refine Nat.ble_eq_true_of_le ?_
    by_cases z : i.natAbs = 0
    · rw [z]; decide
    · have := (Nat.log2_lt z (k := 40)).mpr (Nat.lt_of_lt_of_le h (by decide))
      omega
  | .str _, h => by cases h
  | .dict _, h => by cases h
  | .list ds, h => small_nums ds h
  | .tuple ds, h => small_nums ds h
theorem small_nums : ∀ ds : List PyData, numDs ds = true → smallDs ds = true
  | [], _ => rfl
  | d :: ds, h => by
    obtain ⟨h1, h2⟩ := and2 h
    show (smallD d && smallDs ds) = true
    rw [small_num d h1, small_nums ds h2]
    rfl
end
theorem canon_str {s : Str} (h : okCp s) : canon (.str s) = true := by
  show (PyData.strOk s && decide _) = true
  rw [okCp_str h, Bool.true_and]
  exact decide_eq_true (by show PyData.depth (.str s) ≤ 64; simp [PyData.depth])
theorem wNe_str {s : Str} {Q : D → Prop} (h : okCp s) (q : Q (.bl false)) : wCmp .ne (.str s) (.str s) Q := by
  refine ⟨_, _, rfl, rfl, canon_str h, canon_str h, ?_⟩
  have : PyData.eqv (.str s) (.str s) = true := by show (s == s) = true; simp
  rw [this]
  exact q
theorem wEq_str {s : Str} {Q : D → Prop} (h : okCp s) (q : Q (.bl true)) : wCmp .eq (.str s) (.str s) Q := by
  refine ⟨_, _, rfl, rfl, canon_str h, canon_str h, ?_⟩
  have : PyData.eqv (.str s) (.str s) = true := by show (s == s) = true; simp
  rw [this]
  exact q
end MP
namespace MP
open PySem
section
variable {kf : Nat → Nat} {X : Nat} (hX : ∀ f, kf f ≤ X)
include hX
mutual
theorem cE_le : ∀ e : E, cE kf e ≤ cE (fun _ => 1) e * X
  | .bad => Nat.zero_le _ | .non => Nat.zero_le _ | .bl _ => Nat.zero_le _ | .int _ => Nat.zero_le _ | .str _ => Nat.zero_le _ | .var _ => Nat.zero_le _ | .glo _ => Nat.zero_le _ | .dict0 => Nat.zero_le _
  | .bin _ a b => by
    have := cE_le a; have := cE_le b
    show cE kf a + cE kf b ≤ (cE (fun _ => 1) a + cE (fun _ => 1) b) * X
    rw [Nat.add_mul]; omega
  | .neg a => cE_le a
  | .not a => cE_le a
  | .and a b => by
    have := cE_le a; have := cE_le b
    show cE kf a + cE kf b ≤ (cE (fun _ => 1) a + cE (fun _ => 1) b) * X
    rw [Nat.add_mul]; omega
  | .or a b => by
    have := cE_le a; have := cE_le b
    show cE kf a + cE kf b ≤ (cE (fun _ => 1) a + cE (fun _ => 1) b) * X
    rw [Nat.add_mul]; omega
  | .cmp _ a b => by
    have := cE_le a; have := cE_le b
    show cE kf a + cE kf b ≤ (cE (fun _ => 1) a + cE (fun _ => 1) b) * X
    rw [Nat.add_mul]; omega
  | .chn _ _ a b e => by
    have := cE_le a; have := cE_le b; have := cE_le e
    show cE kf a + (cE kf b + cE kf e) ≤ (cE (fun _ => 1) a + (cE (fun _ => 1) b + cE (fun _ => 1) e)) * X
    rw [Nat.add_mul, Nat.add_mul]; omega
  | .ite c a b => by
    have := cT_le c; have := cE_le a; have := cE_le b
    show cT kf c + (cE kf a + cE kf b) ≤ (cT (fun _ => 1) c + (cE (fun _ => 1) a + cE (fun _ => 1) b)) * X
    rw [Nat.add_mul, Nat.add_mul]; omega
  | .lst es => cA_le es
  | .tup es => cA_le es
  | .sub a b => by
    have := cE_le a; have := cE_le b
    show cE kf a + cE kf b ≤ (cE (fun _ => 1) a + cE (fun _ => 1) b) * X
    rw [Nat.add_mul]; omega
  | .cut a lo hi => by
    have := cE_le a; have := cE_le lo; have := cE_le hi
    show cE kf a + (cE kf lo + cE kf hi) ≤ (cE (fun _ => 1) a + (cE (fun _ => 1) lo + cE (fun _ => 1) hi)) * X
    rw [Nat.add_mul, Nat.add_mul]; omega
  | .call f es _ => by
    have := cA_le es; have := hX f
    show cA kf es + kf f ≤ (cA (fun _ => 1) es + 1) * X
    rw [Nat.add_mul]; omega
  | .callK f es ks _ => by
    have := cA_le es; have := cA_le ks; have := hX f
    show cA kf es + (cA kf ks + kf f) ≤ (cA (fun _ => 1) es + (cA (fun _ => 1) ks + 1)) * X
    rw [Nat.add_mul, Nat.add_mul]; omega
  | .bi _ es => cA_le es
  | .isi a _ _ => cE_le a
  | .mt _ a es => by
    have := cE_le a; have := cA_le es
    show cE kf a + cA kf es ≤ (cE (fun _ => 1) a + cA (fun _ => 1) es) * X
    rw [Nat.add_mul]; omega
  | .lc _ tg it ifs elt => by
    have := cI_le it; have := cG_le tg; have := cT_le ifs; have := cE_le elt
    show cI kf it + LF * (cG kf tg + (cT kf ifs + cE kf elt)) ≤ (cI (fun _ => 1) it + LF * (cG (fun _ => 1) tg + (cT (fun _ => 1) ifs + cE (fun _ => 1) elt))) * X
    rw [Nat.add_mul, Nat.mul_assoc, Nat.add_mul, Nat.add_mul]
    exact Nat.add_le_add (by omega) (Nat.mul_le_mul_left _ (by omega))
  | .lrg es => cA_le es
termination_by structural x => x
theorem cA_le : ∀ e : Es, cA kf e ≤ cA (fun _ => 1) e * X
  | .nil => Nat.zero_le _
  | .cons e r => by
    have := cE_le e; have := cA_le r
    show cE kf e + cA kf r ≤ (cE (fun _ => 1) e + cA (fun _ => 1) r) * X
    rw [Nat.add_mul]; omega
termination_by structural x => x
theorem cT_le : ∀ e : Tt, cT kf e ≤ cT (fun _ => 1) e * X
  | .yes => Nat.zero_le _
  | .not a => cT_le a
  | .and a b => by
    have := cT_le a; have := cT_le b
    show cT kf a + cT kf b ≤ (cT (fun _ => 1) a + cT (fun _ => 1) b) * X
    rw [Nat.add_mul]; omega
  | .or a b => by
    have := cT_le a; have := cT_le b
    show cT kf a + cT kf b ≤ (cT (fun _ => 1) a + cT (fun _ => 1) b) * X
    rw [Nat.add_mul]; omega
  | .cmp _ a b => by
    have := cE_le a; have := cE_le b
    show cE kf a + cE kf b ≤ (cE (fun _ => 1) a + cE (fun _ => 1) b) * X
    rw [Nat.add_mul]; omega
  | .chn _ _ a b e => by
    have := cE_le a; have := cE_le b; have := cE_le e
    show cE kf a + (cE kf b + cE kf e) ≤ (cE (fun _ => 1) a + (cE (fun _ => 1) b + cE (fun _ => 1) e)) * X
    rw [Nat.add_mul, Nat.add_mul]; omega
  | .val e => cE_le e
termination_by structural x => x
theorem cG_le : ∀ e : Tg, cG kf e ≤ cG (fun _ => 1) e * X
  | .name _ => Nat.zero_le _
  | .tup ts => cGs_le ts
  | .sub o i => by
    have := cE_le o; have := cE_le i
    show cE kf o + cE kf i ≤ (cE (fun _ => 1) o + cE (fun _ => 1) i) * X
    rw [Nat.add_mul]; omega
termination_by structural x => x
theorem cGs_le : ∀ e : Tgs, cGs kf e ≤ cGs (fun _ => 1) e * X
  | .nil => Nat.zero_le _
  | .cons t r => by
    have := cG_le t; have := cGs_le r
    show cG kf t + cGs kf r ≤ (cG (fun _ => 1) t + cGs (fun _ => 1) r) * X
    rw [Nat.add_mul]; omega
termination_by structural x => x
theorem cI_le : ∀ e : MP.It, cI kf e ≤ cI (fun _ => 1) e * X
  | .seq e => cE_le e
  | .rng es => cA_le es
  | .enum e => cE_le e
  | .zip a b => by
    have := cE_le a; have := cE_le b
    show cE kf a + cE kf b ≤ (cE (fun _ => 1) a + cE (fun _ => 1) b) * X
    rw [Nat.add_mul]; omega
termination_by structural x => x
end
mutual
theorem cS_le : ∀ s : Sm, cS kf s ≤ cS (fun _ => 1) s * X
  | .bad => Nat.zero_le _ | .pass => Nat.zero_le _ | .retN => Nat.zero_le _ | .brk => Nat.zero_le _ | .cnt => Nat.zero_le _
  | .expr e => cE_le hX e
  | .asg t e => by
    have := cE_le hX e; have := cG_le hX t
    show cE kf e + cG kf t ≤ (cE (fun _ => 1) e + cG (fun _ => 1) t) * X
    rw [Nat.add_mul]; omega
  | .par _ _ a b => by
    have := cE_le hX a; have := cE_le hX b
    show cE kf a + cE kf b ≤ (cE (fun _ => 1) a + cE (fun _ => 1) b) * X
    rw [Nat.add_mul]; omega
  | .ret e => cE_le hX e
  | .ite c a b => by
    have := cT_le hX c; have := cSs_le a; have := cSs_le b
    show cT kf c + (cSs kf a + cSs kf b) ≤ (cT (fun _ => 1) c + (cSs (fun _ => 1) a + cSs (fun _ => 1) b)) * X
    rw [Nat.add_mul, Nat.add_mul]; omega
  | .forr t it b => by
    have := cI_le hX it; have := cG_le hX t; have := cSs_le b
    show cI kf it + LF * (cG kf t + cSs kf b) ≤ (cI (fun _ => 1) it + LF * (cG (fun _ => 1) t + cSs (fun _ => 1) b)) * X
    rw [Nat.add_mul, Nat.mul_assoc, Nat.add_mul]
    exact Nat.add_le_add (by omega) (Nat.mul_le_mul_left _ (by omega))
  | .whl c b => by
    have := cT_le hX c; have := cSs_le b
    show LF * (cT kf c + cSs kf b) ≤ LF * (cT (fun _ => 1) c + cSs (fun _ => 1) b) * X
    rw [Nat.mul_assoc, Nat.add_mul]
    exact Nat.mul_le_mul_left _ (by omega)
termination_by structural x => x
theorem cSs_le : ∀ s : Ss, cSs kf s ≤ cSs (fun _ => 1) s * X
  | .nil => Nat.zero_le _
  | .cons s r => by
    have := cS_le s; have := cSs_le r
    show cS kf s + cSs kf r ≤ (cS (fun _ => 1) s + cSs (fun _ => 1) r) * X
    rw [Nat.add_mul]; omega
termination_by structural x => x
end
end
theorem kcl_le {T : List Fn} {sp : Specs} {ks : Nat → Nat} {M : Nat} (hM : 1 ≤ M) (hk : ∀ f, ks f ≤ 2) (hT : ∀ F ∈ T, cSs (fun _ => 1) F.body ≤ M) : ∀ d f : Nat, kcl T sp ks d f ≤ 2 * M ^ d
  | 0, f => by show ks f ≤ _; rw [Nat.pow_zero]; exact hk f
  | d + 1, f => by
    have one : 1 ≤ M ^ (d + 1) := Nat.one_le_pow _ _ hM
    show (match sp f with
      | some _ => ks f
      | none => match T[f]? with
        | none => 0
        | some F => cSs (kcl T sp ks d) F.body) ≤ _
    cases sp f with
    | some w => have := hk f; show ks f ≤ _; omega
    | none =>
      cases e : T[f]? with
      | none => exact Nat.zero_le _
      | some F =>
        show cSs (kcl T sp ks d) F.body ≤ _
        have h := cSs_le (kcl_le (sp := sp) (ks := ks) hM hk hT d) F.body
        refine Nat.le_trans h (Nat.le_trans (Nat.mul_le_mul_right _ (hT F (List.mem_of_getElem? e))) (Nat.le_of_eq ?_))
        rw [Nat.pow_succ, Nat.mul_left_comm, Nat.mul_comm M]
theorem cost_ok {T : List Fn} {sp : Specs} {ks : Nat → Nat} {few d : Nat} {bb : Ss} (hk : ∀ f, ks f ≤ 2) (hT : (T.all fun F => Nat.ble (cSs (fun _ => 1) F.body) (2 ^ 1000)) = true) (hb : Nat.ble (cSs (fun _ => 1) bb) (2 ^ 1000) = true) (hf : few ≤ 63) (hd : d ≤ 50) : few * cSs (kcl T sp ks d) bb ≤ BIG := by
  have h1 : ∀ F ∈ T, cSs (fun _ => 1) F.body ≤ 2 ^ 1000 := fun F hF => Nat.le_of_ble_eq_true (List.all_eq_true.mp hT F hF)
  have h2 := cSs_le (kcl_le (T := T) (sp := sp) (ks := ks) (Nat.one_le_two_pow) hk h1 d) bb
  have h3 := Nat.le_of_ble_eq_true hb
  have e1 : (2 * (2 ^ 1000) ^ d : Nat) = 2 ^ (1 + 1000 * d) := by rw [← Nat.pow_mul, Nat.pow_add, Nat.pow_one]
  rw [e1] at h2
  have h4 : cSs (kcl T sp ks d) bb ≤ 2 ^ (1000 + (1 + 1000 * d)) := by rw [Nat.pow_add]; exact Nat.le_trans h2 (Nat.mul_le_mul_right _ h3)
  have h5 : few ≤ 2 ^ 6 := by omega
  have h6 : few * cSs (kcl T sp ks d) bb ≤ 2 ^ (6 + (1000 + (1 + 1000 * d))) := by rw [Nat.pow_add]; exact Nat.mul_le_mul h5 h4
  refine Nat.le_trans h6 ?_
  unfold BIG
  exact Nat.pow_le_pow_right (by decide) (by omega)
theorem wq_l {wc : WCl} {spi : Nat} {s : Sm} {r : Ss} {δ : PEnv} {K : PEnds} (h : wqS wc spi s δ { K with nx := fun δ1 => wqSs wc spi r δ1 K }) : wqSs wc spi (.cons s r) δ K := Or.inl h
/-- a mark is set -/
theorem wq_r {wc : WCl} {spi : Nat} {s : Sm} {r : Ss} {δ : PEnv} {K : PEnds} (h : wqS wc spi s (reE δ) { K with nx := fun δ1 => wqSs wc spi r δ1 K }) : wqSs wc spi (.cons s r) δ K := Or.inr h
theorem wq_nil {wc : WCl} {spi : Nat} {δ : PEnv} {K : PEnds} : wqSs wc spi .nil δ K = K.nx δ := rfl
theorem WQ :
  (∀ (wc : WCl) (spi : Nat) (δ : PEnv) (K : PEnds) (c : Tt) (a b : Ss), wqS wc spi (.ite c a b) δ K = wpT wc c δ fun t => match t with | true => wqSs wc spi a δ K | false => wqSs wc spi b δ K) ∧
  (∀ (wc : WCl) (spi : Nat) (δ : PEnv) (K : PEnds) (t : Tg) (e : E), wqS wc spi (.asg t e) δ K = wpE wc e δ fun d => wpG wc t d δ K.nx) ∧
  (∀ (wc : WCl) (spi : Nat) (δ : PEnv) (K : PEnds) (i j : Nat) (a b : E), wqS wc spi (.par i j a b) δ K = wpE wc a δ fun x => wpE wc b δ fun y => K.nx ((δ.set i (some x)).set j (some y))) ∧
  (∀ (wc : WCl) (spi : Nat) (δ : PEnv) (K : PEnds) (e : E), wqS wc spi (.ret e) δ K = wpE wc e δ K.rt) ∧
  (∀ (wc : WCl) (spi : Nat) (δ : PEnv) (K : PEnds) (t : Tg) (it : MP.It) (b : Ss), wqS wc spi (.forr t it b) δ K = wpI wc it δ fun xs => xs.length < LF ∧ wFor (fun x δ' K => wpG wc t x δ' K) (fun δ' E' => wpSs wc b δ' E') xs δ K) ∧
  (∀ (wc : WCl) (spi : Nat) (δ : PEnv) (K : PEnds) (e : E), wqS wc spi (.expr e) δ K = wqE wc spi e δ K) := by
  refine ⟨?_, ?_, ?_, ?_, ?_, ?_⟩ <;> intros <;> rfl
theorem wq_spoil {wc : WCl} {spi : Nat} {a : E} {δ : PEnv} {K : PEnds} (h : wpE wc a δ (fun d => (d.new = true ∧ 2 * d.nodes + 2 ≤ lineN ∧ d.depth ≤ 30) ∧ K.nx (δ.map dropNew))) : wqE wc spi (.call spi (.cons a .nil) []) δ K := by
  unfold wqE
  dsimp only
  rw [if_pos rfl]
  exact h
end MP
namespace MP
namespace D
open PySem PySem.Spec PyProof.Rows L2
abbrev top (i : Nat) : Stmt := PySem.Challenge.pw_boundtobe_k03_whole_crowds_judged.main.body.getD i (.Pass ⟨0, 0, 0, 0⟩)
def b_is_whole : Ss := (.cons (.ret (.and (.isi (.var 0) [.int] true) (.not (.isi (.var 0) [.bool] true)))) .nil)
def x_is_whole : FX := ⟨(Str.ofString "is_whole"), [(Str.ofString "value")], [(Str.ofString "value")], defBody (top 1), defScope (top 1), b_is_whole⟩
def b_is_count : Ss := (.cons (.ret (.and (.call 0 (.cons (.var 0) .nil) []) (.cmp .ge (.var 0) (.bi .max2 (.cons (.var 1) (.cons (.int 0) .nil)))))) .nil)
def x_is_count : FX := ⟨(Str.ofString "is_count"), [(Str.ofString "value"), (Str.ofString "least")], [(Str.ofString "value"), (Str.ofString "least")], defBody (top 2), defScope (top 2), b_is_count⟩
def b_is_tuple_of : Ss := (.cons (.ret (.and (.isi (.var 0) [.tuple] true) (.cmp .eq (.bi .len (.cons (.var 0) .nil)) (.var 1)))) .nil)
def x_is_tuple_of : FX := ⟨(Str.ofString "is_tuple_of"), [(Str.ofString "value"), (Str.ofString "size")], [(Str.ofString "value"), (Str.ofString "size")], defBody (top 3), defScope (top 3), b_is_tuple_of⟩
def b_is_row : Ss := (.cons (.ret (.and (.isi (.var 2) [.list] true) (.and (.cmp .eq (.bi .len (.cons (.var 2) .nil)) (.var 1)) (.bi .all (.cons (.lc [3] (.name 3) (.seq (.var 2)) .yes (.and (.call 1 (.cons (.var 3) .nil) [(.int 0)]) (.cmp .lt (.var 3) (.var 0)))) .nil))))) .nil)
def x_is_row : FX := ⟨(Str.ofString "is_row"), [(Str.ofString "colours"), (Str.ofString "many"), (Str.ofString "value")], [(Str.ofString "colours"), (Str.ofString "many"), (Str.ofString "value"), (Str.ofString "one")], defBody (top 11), defScope (top 11), b_is_row⟩
def b_is_party : Ss := (.cons (.ite (.or (.not (.val (.call 2 (.cons (.var 0) (.cons (.int 2) .nil)) []))) (.or (.not (.val (.call 1 (.cons (.sub (.var 0) (.int 0)) (.cons (.int 1) .nil)) []))) (.not (.val (.isi (.sub (.var 0) (.int 1)) [.list] true))))) (.cons (.ret (.bl false)) .nil) .nil) (.cons (.ret (.bi .all (.cons (.lc [1, 2] (.tup (.cons (.name 1) (.cons (.name 2) .nil))) (.enum (.sub (.var 0) (.int 1))) .yes (.call 3 (.cons (.sub (.var 0) (.int 0)) (.cons (.var 1) (.cons (.var 2) .nil))) [])) .nil))) .nil))
def x_is_party : FX := ⟨(Str.ofString "is_party"), [(Str.ofString "value")], [(Str.ofString "value"), (Str.ofString "guest"), (Str.ofString "row")], defBody (top 12), defScope (top 12), b_is_party⟩
def b_check_party : Ss := (.cons (.ite (.not (.val (.call 4 (.cons (.var 0) .nil) []))) (.cons .bad .nil) .nil) .nil)
def x_check_party : FX := ⟨(Str.ofString "check_party"), [(Str.ofString "value")], [(Str.ofString "value")], defBody (top 13), defScope (top 13), b_check_party⟩
def b_is_guest : Ss := (.cons (.ret (.and (.call 1 (.cons (.var 1) .nil) [(.int 0)]) (.cmp .lt (.var 1) (.bi .len (.cons (.sub (.var 0) (.int 1)) .nil))))) .nil)
def x_is_guest : FX := ⟨(Str.ofString "is_guest"), [(Str.ofString "party"), (Str.ofString "value")], [(Str.ofString "party"), (Str.ofString "value")], defBody (top 14), defScope (top 14), b_is_guest⟩
def b_check_colour : Ss := (.cons (.ite (.or (.not (.val (.call 1 (.cons (.var 1) .nil) [(.int 0)]))) (.cmp .ge (.var 1) (.sub (.var 0) (.int 0)))) (.cons .bad .nil) .nil) .nil)
def x_check_colour : FX := ⟨(Str.ofString "check_colour"), [(Str.ofString "party"), (Str.ofString "value")], [(Str.ofString "party"), (Str.ofString "value")], defBody (top 15), defScope (top 15), b_check_colour⟩
def b_colour_there : Ss := (.cons (.ret (.sub (.sub (.sub (.var 0) (.int 1)) (.bi .max2 (.cons (.var 1) (.cons (.var 2) .nil)))) (.bi .min2 (.cons (.var 1) (.cons (.var 2) .nil))))) .nil)
def x_colour_there : FX := ⟨(Str.ofString "colour_there"), [(Str.ofString "party"), (Str.ofString "one"), (Str.ofString "other")], [(Str.ofString "party"), (Str.ofString "one"), (Str.ofString "other")], defBody (top 16), defScope (top 16), b_colour_there⟩
def b_are_guests : Ss := (.cons (.ite (.or (.not (.val (.isi (.var 1) [.list] true))) (.not (.val (.bi .all (.cons (.lc [2] (.name 2) (.seq (.var 1)) .yes (.call 6 (.cons (.var 0) (.cons (.var 2) .nil)) [])) .nil))))) (.cons (.ret (.bl false)) .nil) .nil) (.cons (.ret (.bi .all (.cons (.lc [3, 4] (.tup (.cons (.name 3) (.cons (.name 4) .nil))) (.zip (.var 1) (.cut (.var 1) (.int 1) .bad)) .yes (.cmp .lt (.var 3) (.var 4))) .nil))) .nil))
def x_are_guests : FX := ⟨(Str.ofString "are_guests"), [(Str.ofString "party"), (Str.ofString "value")], [(Str.ofString "party"), (Str.ofString "value"), (Str.ofString "guest"), (Str.ofString "one"), (Str.ofString "late")], defBody (top 17), defScope (top 17), b_are_guests⟩
def b_is_crowd_there : Ss := (.cons (.forr (.tup (.cons (.name 3) (.cons (.name 4) .nil))) (.enum (.var 2)) (.cons (.ite (.not (.val (.bi .all (.cons (.lc [5] (.name 5) (.seq (.cut (.var 2) .bad (.var 3))) .yes (.cmp .eq (.call 8 (.cons (.var 0) (.cons (.var 4) (.cons (.var 5) .nil))) []) (.var 1))) .nil)))) (.cons (.ret (.bl false)) .nil) .nil) .nil)) (.cons (.ret (.bl true)) .nil))
def x_is_crowd_there : FX := ⟨(Str.ofString "is_crowd_there"), [(Str.ofString "party"), (Str.ofString "colour"), (Str.ofString "guests")], [(Str.ofString "party"), (Str.ofString "colour"), (Str.ofString "guests"), (Str.ofString "at"), (Str.ofString "one"), (Str.ofString "late")], defBody (top 18), defScope (top 18), b_is_crowd_there⟩
def b_is_crowd : Ss := (.cons (.expr (.call 5 (.cons (.var 0) .nil) [])) (.cons (.expr (.call 7 (.cons (.var 0) (.cons (.var 1) .nil)) [])) (.cons (.ret (.and (.call 9 (.cons (.var 0) (.cons (.var 2) .nil)) []) (.call 10 (.cons (.var 0) (.cons (.var 1) (.cons (.var 2) .nil))) []))) .nil)))
def x_is_crowd : FX := ⟨(Str.ofString "is_crowd"), [(Str.ofString "party"), (Str.ofString "colour"), (Str.ofString "value")], [(Str.ofString "party"), (Str.ofString "colour"), (Str.ofString "value")], defBody (top 19), defScope (top 19), b_is_crowd⟩
def b_part_there : Ss := (.cons (.ret (.tup (.cons (.sub (.var 0) (.int 0)) (.cons (.lc [2, 3] (.tup (.cons (.name 2) (.cons (.name 3) .nil))) (.enum (.var 1)) .yes (.lc [4] (.name 4) (.seq (.cut (.var 1) .bad (.var 2))) .yes (.call 8 (.cons (.var 0) (.cons (.var 3) (.cons (.var 4) .nil))) []))) .nil)))) .nil)
def x_part_there : FX := ⟨(Str.ofString "part_there"), [(Str.ofString "party"), (Str.ofString "guests")], [(Str.ofString "party"), (Str.ofString "guests"), (Str.ofString "at"), (Str.ofString "one"), (Str.ofString "late")], defBody (top 20), defScope (top 20), b_part_there⟩
def b_part_of : Ss := (.cons (.expr (.call 5 (.cons (.var 0) .nil) [])) (.cons (.ite (.not (.val (.call 9 (.cons (.var 0) (.cons (.var 1) .nil)) []))) (.cons .bad .nil) .nil) (.cons (.ret (.call 12 (.cons (.var 0) (.cons (.var 1) .nil)) [])) .nil)))
def x_part_of : FX := ⟨(Str.ofString "part_of"), [(Str.ofString "party"), (Str.ofString "guests")], [(Str.ofString "party"), (Str.ofString "guests")], defBody (top 21), defScope (top 21), b_part_of⟩
def b_are_sizes : Ss := (.cons (.ret (.and (.isi (.var 1) [.list] true) (.and (.cmp .eq (.bi .len (.cons (.var 1) .nil)) (.var 0)) (.bi .all (.cons (.lc [2] (.name 2) (.seq (.var 1)) .yes (.call 1 (.cons (.var 2) (.cons (.int 1) .nil)) [])) .nil))))) .nil)
def x_are_sizes : FX := ⟨(Str.ofString "are_sizes"), [(Str.ofString "colours"), (Str.ofString "value")], [(Str.ofString "colours"), (Str.ofString "value"), (Str.ofString "size")], defBody (top 22), defScope (top 22), b_are_sizes⟩
def b_check_sizes : Ss := (.cons (.ite (.not (.val (.call 14 (.cons (.sub (.var 0) (.int 0)) (.cons (.var 1) .nil)) []))) (.cons .bad .nil) .nil) .nil)
def x_check_sizes : FX := ⟨(Str.ofString "check_sizes"), [(Str.ofString "party"), (Str.ofString "value")], [(Str.ofString "party"), (Str.ofString "value")], defBody (top 23), defScope (top 23), b_check_sizes⟩
def b_has_crowd : Ss := (.cons (.ite (.cmp .gt (.var 2) (.bi .len (.cons (.sub (.var 0) (.int 1)) .nil))) (.cons (.ret (.bl false)) .nil) .nil) (.cons (.asg (.name 3) (.lst (.cons (.tup (.cons (.lst .nil) (.cons (.lrg (.cons (.bi .len (.cons (.sub (.var 0) (.int 1)) .nil)) .nil)) .nil))) .nil))) (.cons (.whl (.cmp .ne (.var 3) (.lst .nil)) (.cons (.asg (.tup (.cons (.name 4) (.cons (.name 5) .nil))) (.mt .pop0 (.var 3) .nil)) (.cons (.ite (.cmp .eq (.bi .len (.cons (.var 4) .nil)) (.var 2)) (.cons (.ret (.bl true)) .nil) .nil) (.cons (.forr (.tup (.cons (.name 6) (.cons (.name 7) .nil))) (.enum (.var 5)) (.cons (.ite (.cmp .ge (.bin .sub (.bin .add (.bi .len (.cons (.var 4) .nil)) (.bi .len (.cons (.var 5) .nil))) (.var 6)) (.var 2)) (.cons (.asg (.name 8) (.lc [9] (.name 9) (.seq (.cut (.var 5) (.bin .add (.var 6) (.int 1)) .bad)) (.cmp .eq (.call 8 (.cons (.var 0) (.cons (.var 7) (.cons (.var 9) .nil))) []) (.var 1)) (.var 9))) (.cons (.expr (.mt .append (.var 3) (.cons (.tup (.cons (.bin .add (.var 4) (.lst (.cons (.var 7) .nil))) (.cons (.var 8) .nil))) .nil))) .nil)) .nil) .nil)) .nil)))) (.cons (.ret (.bl false)) .nil))))
def x_has_crowd : FX := ⟨(Str.ofString "has_crowd"), [(Str.ofString "party"), (Str.ofString "colour"), (Str.ofString "size")], [(Str.ofString "party"), (Str.ofString "colour"), (Str.ofString "size"), (Str.ofString "todo"), (Str.ofString "crowd"), (Str.ofString "left"), (Str.ofString "at"), (Str.ofString "guest"), (Str.ofString "more"), (Str.ofString "late")], defBody (top 24), defScope (top 24), b_has_crowd⟩
def b_is_free_there : Ss := (.cons (.ret (.not (.bi .any (.cons (.lc [2, 3] (.tup (.cons (.name 2) (.cons (.name 3) .nil))) (.enum (.var 1)) .yes (.call 16 (.cons (.var 0) (.cons (.var 2) (.cons (.var 3) .nil))) [])) .nil)))) .nil)
def x_is_free_there : FX := ⟨(Str.ofString "is_free_there"), [(Str.ofString "party"), (Str.ofString "sizes")], [(Str.ofString "party"), (Str.ofString "sizes"), (Str.ofString "colour"), (Str.ofString "size")], defBody (top 25), defScope (top 25), b_is_free_there⟩
def b_is_free : Ss := (.cons (.expr (.call 5 (.cons (.var 0) .nil) [])) (.cons (.expr (.call 15 (.cons (.var 0) (.cons (.var 1) .nil)) [])) (.cons (.ret (.call 17 (.cons (.var 0) (.cons (.var 1) .nil)) [])) .nil)))
def x_is_free : FX := ⟨(Str.ofString "is_free"), [(Str.ofString "party"), (Str.ofString "sizes")], [(Str.ofString "party"), (Str.ofString "sizes")], defBody (top 26), defScope (top 26), b_is_free⟩
def b__law_purse : Ss := (.cons (.asg (.name 2) (.bi .sum (.cons (.cut (.var 0) (.var 1) (.bin .add (.var 1) (.int 1))) .nil))) (.cons (.ret (.lst (.cons (.bin .mod (.bi .int1 (.cons (.bi .max2 (.cons (.bin .sub (.var 2) (.bin .pow (.int 10) (.int 18))) (.cons (.int 0) .nil))) .nil)) (.bin .pow (.bin .pow (.int 10) (.int 60)) (.int 8))) (.cons (.bin .mod (.bi .int1 (.cons (.var 2) .nil)) (.int 2147483629)) (.cons (.int 0) (.cons (.var 1) .nil)))))) .nil))
def x__law_purse : FX := ⟨(Str.ofString "_law_purse"), [(Str.ofString "script"), (Str.ofString "at")], [(Str.ofString "script"), (Str.ofString "at"), (Str.ofString "seed")], defBody (top 28), defScope (top 28), b__law_purse⟩
def b__law_mixed : Ss := (.cons (.asg (.name 3) (.bin .add (.bin .mul (.var 0) (.int 69069)) (.bin .mul (.bin .mul (.int 104729) (.var 1)) (.var 1)))) (.cons (.asg (.name 3) (.bin .mod (.bi .int1 (.cons (.bin .add (.bin .add (.var 3) (.bin .mul (.int 7919) (.var 2))) (.var 1)) .nil)) (.int 2147483647))) (.cons (.asg (.name 3) (.bin .mod (.bi .int1 (.cons (.bin .add (.bin .mul (.var 3) (.var 3)) (.int 40503)) .nil)) (.int 2147483629))) (.cons (.ret (.bin .mod (.bi .int1 (.cons (.bin .mul (.var 3) (.int 48271)) .nil)) (.int 2147483587))) .nil))))
def x__law_mixed : FX := ⟨(Str.ofString "_law_mixed"), [(Str.ofString "seed"), (Str.ofString "spin"), (Str.ofString "at")], [(Str.ofString "seed"), (Str.ofString "spin"), (Str.ofString "at"), (Str.ofString "mixed")], defBody (top 29), defScope (top 29), b__law_mixed⟩
def b__law_draw : Ss := (.cons (.ite (.cmp .gt (.sub (.var 0) (.int 0)) (.int 0)) (.cons (.asg (.name 2) (.bin .mod (.bi .int1 (.cons (.sub (.var 0) (.int 0)) .nil)) (.var 1))) (.cons (.asg (.sub (.var 0) (.int 0)) (.bin .fdiv (.sub (.var 0) (.int 0)) (.var 1))) (.cons (.ret (.var 2)) .nil))) .nil) (.cons (.asg (.name 3) (.int 0)) (.cons (.forr (.name 4) (.rng (.cons (.bin .add (.int 1) (.bin .fdiv (.mt .bitLength (.var 1) .nil) (.int 28))) .nil)) (.cons (.asg (.sub (.var 0) (.int 2)) (.bin .add (.sub (.var 0) (.int 2)) (.int 1))) (.cons (.asg (.name 3) (.bin .add (.bin .mul (.var 3) (.int 2147483587)) (.call 20 (.cons (.sub (.var 0) (.int 1)) (.cons (.sub (.var 0) (.int 2)) (.cons (.sub (.var 0) (.int 3)) .nil))) []))) .nil))) (.cons (.ret (.bin .mod (.bi .int1 (.cons (.var 3) .nil)) (.var 1))) .nil))))
def x__law_draw : FX := ⟨(Str.ofString "_law_draw"), [(Str.ofString "purse"), (Str.ofString "many")], [(Str.ofString "purse"), (Str.ofString "many"), (Str.ofString "drawn"), (Str.ofString "found"), (Str.ofString "piece")], defBody (top 30), defScope (top 30), b__law_draw⟩
def b__law_one_of : Ss := (.cons (.ret (.sub (.var 1) (.call 21 (.cons (.var 0) (.cons (.bi .len (.cons (.var 1) .nil)) .nil)) []))) .nil)
def x__law_one_of : FX := ⟨(Str.ofString "_law_one_of"), [(Str.ofString "purse"), (Str.ofString "some")], [(Str.ofString "purse"), (Str.ofString "some")], defBody (top 31), defScope (top 31), b__law_one_of⟩
def b__law_shuffled : Ss := (.cons (.asg (.name 2) (.lst .nil)) (.cons (.forr (.name 3) (.seq (.var 1)) (.cons (.expr (.mt .insert (.var 2) (.cons (.call 21 (.cons (.var 0) (.cons (.bin .add (.bi .len (.cons (.var 2) .nil)) (.int 1)) .nil)) []) (.cons (.var 3) .nil)))) .nil)) (.cons (.ret (.var 2)) .nil)))
def x__law_shuffled : FX := ⟨(Str.ofString "_law_shuffled"), [(Str.ofString "purse"), (Str.ofString "some")], [(Str.ofString "purse"), (Str.ofString "some"), (Str.ofString "found"), (Str.ofString "item")], defBody (top 32), defScope (top 32), b__law_shuffled⟩
def b__law_same : Ss := (.cons (.ite (.val (.isi (.var 1) [.dict] true)) (.cons (.asg (.name 2) (.and (.isi (.var 0) [.dict] true) (.and (.cmp .eq (.bi .len (.cons (.var 0) .nil)) (.bi .len (.cons (.var 1) .nil))) (.bi .all (.cons (.lc [3] (.name 3) (.seq (.var 1)) .yes (.cmp .in_ (.var 3) (.var 0))) .nil))))) (.cons (.ret (.and (.var 2) (.bi .all (.cons (.lc [3] (.name 3) (.seq (.var 1)) .yes (.call 24 (.cons (.sub (.var 0) (.var 3)) (.cons (.sub (.var 1) (.var 3)) .nil)) [])) .nil)))) .nil)) .nil) (.cons (.ite (.val (.isi (.var 1) [.list, .tuple] false)) (.cons (.asg (.name 2) (.and (.cmp .eq (.isi (.var 0) [.list] true) (.isi (.var 1) [.list] true)) (.cmp .eq (.isi (.var 0) [.tuple] true) (.isi (.var 1) [.tuple] true)))) (.cons (.ret (.and (.var 2) (.and (.cmp .eq (.bi .len (.cons (.var 0) .nil)) (.bi .len (.cons (.var 1) .nil))) (.bi .all (.cons (.lc [4, 5] (.tup (.cons (.name 4) (.cons (.name 5) .nil))) (.zip (.var 0) (.var 1)) .yes (.call 24 (.cons (.var 4) (.cons (.var 5) .nil)) [])) .nil))))) .nil)) .nil) (.cons (.asg (.name 2) (.and (.not (.isi (.var 0) [.list, .tuple, .dict] false)) (.and (.cmp .eq (.isi (.var 0) [.int] true) (.isi (.var 1) [.int] true)) (.cmp .eq (.isi (.var 0) [.str] true) (.isi (.var 1) [.str] true))))) (.cons (.ret (.and (.var 2) (.and (.cmp .eq (.cmp .is_ (.var 0) .non) (.cmp .is_ (.var 1) .non)) (.and (.cmp .eq (.isi (.var 0) [.bool] true) (.isi (.var 1) [.bool] true)) (.cmp .eq (.var 0) (.var 1)))))) .nil))))
def x__law_same : FX := ⟨(Str.ofString "_law_same"), [(Str.ofString "told"), (Str.ofString "due")], [(Str.ofString "told"), (Str.ofString "due"), (Str.ofString "is_like"), (Str.ofString "key"), (Str.ofString "one"), (Str.ofString "other")], defBody (top 33), defScope (top 33), b__law_same⟩
def b__law_purses : Ss := (.cons (.ret (.lc [2] (.name 2) (.rng (.cons (.bi .max2 (.cons (.int 1) (.cons (.bi .min2 (.cons (.var 1) (.cons (.bi .len (.cons (.var 0) .nil)) .nil))) .nil))) .nil)) .yes (.call 19 (.cons (.var 0) (.cons (.var 2) .nil)) []))) .nil)
def x__law_purses : FX := ⟨(Str.ofString "_law_purses"), [(Str.ofString "script"), (Str.ofString "few")], [(Str.ofString "script"), (Str.ofString "few"), (Str.ofString "at")], defBody (top 34), defScope (top 34), b__law_purses⟩
def b__law_chain : Ss := (.cons (.asg (.name 1) (.lst .nil)) (.cons (.forr (.name 2) (.seq (.var 0)) (.cons (.asg (.name 1) (.bin .add (.var 1) (.bi .list (.cons (.var 2) .nil)))) .nil)) (.cons (.ret (.var 1)) .nil)))
def x__law_chain : FX := ⟨(Str.ofString "_law_chain"), [(Str.ofString "lists")], [(Str.ofString "lists"), (Str.ofString "found"), (Str.ofString "late")], defBody (top 35), defScope (top 35), b__law_chain⟩
def b__law_spoilt : Ss := (.cons (.ite (.val (.isi (.var 0) [.dict] true)) (.cons (.forr (.name 1) (.seq (.bi .list (.cons (.var 0) .nil))) (.cons (.expr (.call 27 (.cons (.sub (.var 0) (.var 1)) .nil) [])) .nil)) (.cons (.asg (.sub (.var 0) (.str [77, 79, 82, 69])) (.str [77, 79, 82, 69])) .nil)) .nil) (.cons (.ite (.val (.isi (.var 0) [.list, .tuple] false)) (.cons (.forr (.name 2) (.seq (.var 0)) (.cons (.expr (.call 27 (.cons (.var 2) .nil) [])) .nil)) .nil) .nil) (.cons (.ite (.val (.isi (.var 0) [.list] true)) (.cons (.expr (.mt .append (.var 0) (.cons (.str [77, 79, 82, 69]) .nil))) .nil) .nil) .nil)))
def x__law_spoilt : FX := ⟨(Str.ofString "_law_spoilt"), [(Str.ofString "thing")], [(Str.ofString "thing"), (Str.ofString "key"), (Str.ofString "item")], defBody (top 36), defScope (top 36), b__law_spoilt⟩
def b__law_party : Ss := (.cons (.asg (.name 3) (.call 21 (.cons (.var 0) (.cons (.int 4) .nil)) [])) (.cons (.asg (.name 4) (.lc [5] (.name 5) (.rng (.cons (.var 1) .nil)) .yes (.lc [6] (.name 6) (.rng (.cons (.var 5) .nil)) .yes (.call 21 (.cons (.var 0) (.cons (.var 2) .nil)) [])))) (.cons (.ite (.cmp .eq (.var 3) (.int 0)) (.cons (.asg (.name 7) (.lc [6] (.name 6) (.rng (.cons (.var 1) .nil)) .yes (.call 21 (.cons (.var 0) (.cons (.var 2) .nil)) []))) (.cons (.asg (.name 4) (.lc [5] (.name 5) (.rng (.cons (.var 1) .nil)) .yes (.lc [6] (.name 6) (.rng (.cons (.var 5) .nil)) .yes (.sub (.var 7) (.bin .sub (.bi .min2 (.cons (.bin .sub (.var 5) (.var 6)) (.cons (.bin .add (.bin .sub (.var 1) (.var 5)) (.var 6)) .nil))) (.int 1)))))) .nil)) .nil) (.cons (.ite (.cmp .eq (.var 3) (.int 1)) (.cons (.asg (.name 8) (.lc [5] (.name 5) (.rng (.cons (.var 1) .nil)) .yes (.call 21 (.cons (.var 0) (.cons (.int 3) .nil)) []))) (.cons (.asg (.name 4) (.lc [5] (.name 5) (.rng (.cons (.var 1) .nil)) .yes (.lc [6] (.name 6) (.rng (.cons (.var 5) .nil)) .yes (.ite (.cmp .eq (.sub (.var 8) (.var 5)) (.sub (.var 8) (.var 6))) (.int 0) (.bin .sub (.var 2) (.int 1)))))) .nil)) .nil) (.cons (.ret (.tup (.cons (.var 2) (.cons (.var 4) .nil)))) .nil)))))
def x__law_party : FX := ⟨(Str.ofString "_law_party"), [(Str.ofString "purse"), (Str.ofString "many"), (Str.ofString "colours")], [(Str.ofString "purse"), (Str.ofString "many"), (Str.ofString "colours"), (Str.ofString "way"), (Str.ofString "rows"), (Str.ofString "guest"), (Str.ofString "late"), (Str.ofString "by"), (Str.ofString "lots")], defBody (top 37), defScope (top 37), b__law_party⟩
def b__law_colour : Ss := (.cons (.ret (.sub (.sub (.sub (.var 0) (.int 1)) (.bi .max2 (.cons (.var 1) (.cons (.var 2) .nil)))) (.bi .min2 (.cons (.var 1) (.cons (.var 2) .nil))))) .nil)
def x__law_colour : FX := ⟨(Str.ofString "_law_colour"), [(Str.ofString "party"), (Str.ofString "one"), (Str.ofString "other")], [(Str.ofString "party"), (Str.ofString "one"), (Str.ofString "other")], defBody (top 38), defScope (top 38), b__law_colour⟩
def b__law_lots : Ss := (.cons (.asg (.name 1) (.lst (.cons (.lst .nil) .nil))) (.cons (.forr (.name 2) (.rng (.cons (.var 0) .nil)) (.cons (.asg (.name 1) (.bin .add (.var 1) (.lc [3] (.name 3) (.seq (.var 1)) .yes (.bin .add (.var 3) (.lst (.cons (.var 2) .nil)))))) .nil)) (.cons (.ret (.var 1)) .nil)))
def x__law_lots : FX := ⟨(Str.ofString "_law_lots"), [(Str.ofString "many")], [(Str.ofString "many"), (Str.ofString "found"), (Str.ofString "at"), (Str.ofString "lot")], defBody (top 39), defScope (top 39), b__law_lots⟩
def b__law_is_crowd : Ss := (.cons (.ret (.bi .all (.cons (.lc [3, 4] (.tup (.cons (.name 3) (.cons (.name 4) .nil))) (.enum (.var 2)) .yes (.bi .all (.cons (.lc [5] (.name 5) (.seq (.cut (.var 2) .bad (.var 3))) .yes (.cmp .eq (.call 29 (.cons (.var 0) (.cons (.var 4) (.cons (.var 5) .nil))) []) (.var 1))) .nil))) .nil))) .nil)
def x__law_is_crowd : FX := ⟨(Str.ofString "_law_is_crowd"), [(Str.ofString "party"), (Str.ofString "colour"), (Str.ofString "lot")], [(Str.ofString "party"), (Str.ofString "colour"), (Str.ofString "lot"), (Str.ofString "at"), (Str.ofString "one"), (Str.ofString "late")], defBody (top 40), defScope (top 40), b__law_is_crowd⟩
def b__law_greatest : Ss := (.cons (.ret (.bi .max1 (.cons (.lc [2] (.name 2) (.seq (.call 30 (.cons (.bi .len (.cons (.sub (.var 0) (.int 1)) .nil)) .nil) [])) (.val (.call 31 (.cons (.var 0) (.cons (.var 1) (.cons (.var 2) .nil))) [])) (.bi .len (.cons (.var 2) .nil))) .nil))) .nil)
def x__law_greatest : FX := ⟨(Str.ofString "_law_greatest"), [(Str.ofString "party"), (Str.ofString "colour")], [(Str.ofString "party"), (Str.ofString "colour"), (Str.ofString "lot")], defBody (top 41), defScope (top 41), b__law_greatest⟩
def b__law_great_right : Ss := (.cons (.asg (.name 1) (.lc [2] (.name 2) (.rng (.cons (.bin .add (.int 1) (.call 21 (.cons (.var 0) (.cons (.int 4) .nil)) [])) .nil)) .yes (.bin .add (.int 1) (.call 21 (.cons (.var 0) (.cons (.int 6) .nil)) [])))) (.cons (.asg (.name 3) (.call 23 (.cons (.var 0) (.cons (.call 26 (.cons (.lc [4, 5] (.tup (.cons (.name 4) (.cons (.name 5) .nil))) (.enum (.var 1)) .yes (.bin .mul (.lst (.cons (.var 4) .nil)) (.var 5))) .nil) []) .nil)) [])) (.cons (.asg (.name 6) (.tup (.cons (.int 2) (.cons (.lc [7] (.name 7) (.rng (.cons (.bi .len (.cons (.var 3) .nil)) .nil)) .yes (.lc [8] (.name 8) (.rng (.cons (.var 7) .nil)) .yes (.ite (.cmp .eq (.sub (.var 3) (.var 7)) (.sub (.var 3) (.var 8))) (.int 0) (.int 1)))) .nil)))) (.cons (.asg (.name 9) (.lc [10, 8] (.tup (.cons (.name 10) (.cons (.name 8) .nil))) (.seq (.lst (.cons (.tup (.cons (.int 1) (.cons (.int 1) .nil))) (.cons (.tup (.cons (.int 0) (.cons (.int 1) .nil))) (.cons (.tup (.cons (.int 1) (.cons (.int 0) .nil))) (.cons (.tup (.cons (.int 0) (.cons (.int 0) .nil))) (.cons (.tup (.cons (.int 9) (.cons (.bin .pow (.int 10) (.int 11)) .nil))) .nil))))))) .yes (.call 18 (.cons (.var 6) (.cons (.lst (.cons (.bin .add (.bi .max1 (.cons (.var 1) .nil)) (.var 10)) (.cons (.bin .add (.bi .len (.cons (.var 1) .nil)) (.var 8)) .nil))) .nil)) []))) (.cons (.ret (.call 24 (.cons (.var 9) (.cons (.lst (.cons (.bl true) (.cons (.bl false) (.cons (.bl false) (.cons (.bl false) (.cons (.bl true) .nil)))))) .nil)) [])) .nil)))))
def x__law_great_right : FX := ⟨(Str.ofString "_law_great_right"), [(Str.ofString "purse")], [(Str.ofString "purse"), (Str.ofString "sizes"), (Str.ofString "spin"), (Str.ofString "lots"), (Str.ofString "at"), (Str.ofString "size"), (Str.ofString "party"), (Str.ofString "guest"), (Str.ofString "late"), (Str.ofString "told"), (Str.ofString "more")], defBody (top 42), defScope (top 42), b__law_great_right⟩
def b_law : Ss := (.cons (.forr (.name 1) (.seq (.call 25 (.cons (.var 0) (.cons (.int 2) .nil)) [])) (.cons (.asg (.name 2) (.bin .add (.int 1) (.call 21 (.cons (.var 1) (.cons (.int 3) .nil)) []))) (.cons (.asg (.name 3) (.call 28 (.cons (.var 1) (.cons (.call 21 (.cons (.var 1) (.cons (.int 8) .nil)) []) (.cons (.var 2) .nil))) [])) (.cons (.par 4 5 (.bi .len (.cons (.sub (.var 3) (.int 1)) .nil)) (.bi .repr (.cons (.var 3) .nil))) (.cons (.asg (.name 6) (.call 30 (.cons (.var 4) .nil) [])) (.cons (.forr (.name 7) (.rng (.cons (.var 2) .nil)) (.cons (.asg (.name 8) (.lc [9] (.name 9) (.seq (.var 6)) .yes (.call 31 (.cons (.var 3) (.cons (.var 7) (.cons (.var 9) .nil))) []))) (.cons (.ite (.or (.not (.val (.call 24 (.cons (.lc [9] (.name 9) (.seq (.var 6)) .yes (.call 11 (.cons (.var 3) (.cons (.var 7) (.cons (.var 9) .nil))) [])) (.cons (.var 8) .nil)) []))) (.not (.val (.call 24 (.cons (.callK 11 .nil (.cons (.sub (.var 6) (.neg (.int 1))) (.cons (.var 7) (.cons (.var 3) .nil))) [2, 1, 0]) (.cons (.sub (.var 8) (.neg (.int 1))) .nil)) [])))) (.cons (.ret (.bl false)) .nil) .nil) (.cons (.asg (.name 10) (.lst (.cons .non (.cons (.tup .nil) (.cons (.str [99, 114, 111, 119, 100]) (.cons .dict0 (.cons (.lst (.cons (.var 4) .nil)) (.cons (.lst (.cons (.neg (.int 1)) .nil)) (.cons (.lst (.cons (.bl true) .nil)) (.cons (.lst (.cons .non .nil)) (.cons (.lst (.cons (.str [48]) .nil)) (.cons (.lst (.cons (.int 0) (.cons (.int 0) .nil))) (.cons (.lst (.cons (.lst (.cons (.int 0) .nil)) .nil)) (.cons (.lst (.cons (.int 1) (.cons (.int 0) .nil))) (.cons (.int 0) .nil))))))))))))))) (.cons (.ite (.cmp .ne (.lc [11] (.name 11) (.seq (.var 10)) (.cmp .isn (.call 11 (.cons (.var 3) (.cons (.var 7) (.cons (.var 11) .nil))) []) (.bl false)) (.var 11)) (.lst .nil)) (.cons (.ret (.bl false)) .nil) .nil) .nil))))) (.cons (.asg (.name 12) (.lc [7] (.name 7) (.rng (.cons (.var 2) .nil)) .yes (.call 32 (.cons (.var 3) (.cons (.var 7) .nil)) []))) (.cons (.forr (.name 13) (.rng (.cons (.int 6) .nil)) (.cons (.asg (.name 14) (.lc [7] (.name 7) (.rng (.cons (.var 2) .nil)) .yes (.bin .add (.int 1) (.call 21 (.cons (.var 1) (.cons (.int 5) .nil)) [])))) (.cons (.asg (.name 8) (.bi .all (.cons (.lc [15, 16] (.tup (.cons (.name 15) (.cons (.name 16) .nil))) (.zip (.var 12) (.var 14)) .yes (.cmp .lt (.var 15) (.var 16))) .nil))) (.cons (.ite (.not (.val (.call 24 (.cons (.lst (.cons (.call 18 (.cons (.var 3) (.cons (.var 14) .nil)) []) (.cons (.callK 18 .nil (.cons (.var 14) (.cons (.var 3) .nil)) [1, 0]) .nil))) (.cons (.lst (.cons (.var 8) (.cons (.var 8) .nil))) .nil)) []))) (.cons (.ret (.bl false)) .nil) .nil) .nil)))) (.cons (.ite (.cmp .isn (.call 18 (.cons (.var 3) (.cons (.lc [15] (.name 15) (.seq (.var 12)) .yes (.bin .add (.var 15) (.int 1))) .nil)) []) (.bl true)) (.cons (.ret (.bl false)) .nil) .nil) (.cons (.asg (.name 9) (.call 22 (.cons (.var 1) (.cons (.var 6) .nil)) [])) (.cons (.asg (.name 17) (.tup (.cons (.var 2) (.cons (.lc [18] (.name 18) (.rng (.cons (.bi .len (.cons (.var 9) .nil)) .nil)) .yes (.lc [19] (.name 19) (.rng (.cons (.var 18) .nil)) .yes (.call 29 (.cons (.var 3) (.cons (.sub (.var 9) (.var 18)) (.cons (.sub (.var 9) (.var 19)) .nil))) []))) .nil)))) (.cons (.asg (.name 20) (.lst (.cons (.call 13 (.cons (.var 3) (.cons (.var 9) .nil)) []) (.cons (.callK 13 .nil (.cons (.var 9) (.cons (.var 3) .nil)) [1, 0]) .nil)))) (.cons (.ite (.not (.val (.call 24 (.cons (.var 20) (.cons (.lst (.cons (.var 17) (.cons (.var 17) .nil))) .nil)) []))) (.cons (.ret (.bl false)) .nil) .nil) (.cons (.expr (.call 27 (.cons (.var 20) .nil) [])) (.cons (.ite (.or (.cmp .ne (.bi .repr (.cons (.var 3) .nil)) (.var 5)) (.or (.not (.val (.call 24 (.cons (.call 13 (.cons (.var 3) (.cons (.lrg (.cons (.var 4) .nil)) .nil)) []) (.cons (.var 3) .nil)) []))) (.not (.val (.call 33 (.cons (.var 1) .nil) []))))) (.cons (.ret (.bl false)) .nil) .nil) .nil))))))))))))))) (.cons (.ret (.bl true)) .nil))
def x_law : FX := ⟨(Str.ofString "law"), [(Str.ofString "script")], [(Str.ofString "script"), (Str.ofString "purse"), (Str.ofString "colours"), (Str.ofString "party"), (Str.ofString "many"), (Str.ofString "kept"), (Str.ofString "lots"), (Str.ofString "colour"), (Str.ofString "due"), (Str.ofString "lot"), (Str.ofString "odds"), (Str.ofString "odd"), (Str.ofString "greatest"), (Str.ofString "spin"), (Str.ofString "sizes"), (Str.ofString "one"), (Str.ofString "size"), (Str.ofString "part"), (Str.ofString "at"), (Str.ofString "late"), (Str.ofString "told")], defBody (top 43), defScope (top 43), b_law⟩
def fs : List FX := [x_is_whole, x_is_count, x_is_tuple_of, x_is_row, x_is_party, x_check_party, x_is_guest, x_check_colour, x_colour_there, x_are_guests, x_is_crowd_there, x_is_crowd, x_part_there, x_part_of, x_are_sizes, x_check_sizes, x_has_crowd, x_is_free_there, x_is_free, x__law_purse, x__law_mixed, x__law_draw, x__law_one_of, x__law_shuffled, x__law_same, x__law_purses, x__law_chain, x__law_spoilt, x__law_party, x__law_colour, x__law_lots, x__law_is_crowd, x__law_greatest, x__law_great_right, x_law]
def TT : List Fn := [⟨1, 1, b_is_whole⟩, ⟨2, 2, b_is_count⟩, ⟨2, 2, b_is_tuple_of⟩, ⟨3, 4, b_is_row⟩, ⟨1, 3, b_is_party⟩, ⟨1, 1, b_check_party⟩, ⟨2, 2, b_is_guest⟩, ⟨2, 2, b_check_colour⟩, ⟨3, 3, b_colour_there⟩, ⟨2, 5, b_are_guests⟩, ⟨3, 6, b_is_crowd_there⟩, ⟨3, 3, b_is_crowd⟩, ⟨2, 5, b_part_there⟩, ⟨2, 2, b_part_of⟩, ⟨2, 3, b_are_sizes⟩, ⟨2, 2, b_check_sizes⟩, ⟨3, 10, b_has_crowd⟩, ⟨2, 4, b_is_free_there⟩, ⟨2, 2, b_is_free⟩, ⟨2, 3, b__law_purse⟩, ⟨3, 4, b__law_mixed⟩, ⟨2, 5, b__law_draw⟩, ⟨2, 2, b__law_one_of⟩, ⟨2, 4, b__law_shuffled⟩, ⟨2, 6, b__law_same⟩, ⟨2, 3, b__law_purses⟩, ⟨1, 3, b__law_chain⟩, ⟨1, 3, b__law_spoilt⟩, ⟨3, 9, b__law_party⟩, ⟨3, 3, b__law_colour⟩, ⟨1, 4, b__law_lots⟩, ⟨3, 6, b__law_is_crowd⟩, ⟨2, 3, b__law_greatest⟩, ⟨1, 11, b__law_great_right⟩, ⟨1, 21, b_law⟩]
def gs : List Str := [(Str.ofString "is_whole"), (Str.ofString "is_count"), (Str.ofString "is_tuple_of"), (Str.ofString "is_row"), (Str.ofString "is_party"), (Str.ofString "check_party"), (Str.ofString "is_guest"), (Str.ofString "check_colour"), (Str.ofString "colour_there"), (Str.ofString "are_guests"), (Str.ofString "is_crowd_there"), (Str.ofString "is_crowd"), (Str.ofString "part_there"), (Str.ofString "part_of"), (Str.ofString "are_sizes"), (Str.ofString "check_sizes"), (Str.ofString "has_crowd"), (Str.ofString "is_free_there"), (Str.ofString "is_free"), (Str.ofString "_law_purse"), (Str.ofString "_law_mixed"), (Str.ofString "_law_draw"), (Str.ofString "_law_one_of"), (Str.ofString "_law_shuffled"), (Str.ofString "_law_same"), (Str.ofString "_law_purses"), (Str.ofString "_law_chain"), (Str.ofString "_law_spoilt"), (Str.ofString "_law_party"), (Str.ofString "_law_colour"), (Str.ofString "_law_lots"), (Str.ofString "_law_is_crowd"), (Str.ofString "_law_greatest"), (Str.ofString "_law_great_right"), (Str.ofString "law")]
def cs : List (Nat × Nat × List Vl) := [(0, 1, []), (1, 1, [(.int 0)]), (1, 2, []), (2, 2, []), (3, 3, []), (4, 1, []), (5, 1, []), (6, 2, []), (7, 2, []), (8, 3, []), (9, 2, []), (10, 3, []), (11, 3, []), (12, 2, []), (13, 2, []), (14, 2, []), (15, 2, []), (16, 3, []), (17, 2, []), (18, 2, []), (19, 2, []), (20, 3, []), (21, 2, []), (22, 2, []), (23, 2, []), (24, 2, []), (25, 2, []), (26, 1, []), (27, 1, []), (28, 3, []), (29, 3, []), (30, 1, []), (31, 3, []), (32, 2, []), (33, 1, [])]
def ks : List (Nat × Nat × List Str × List Nat) := [(11, 0, [(Str.ofString "value"), (Str.ofString "colour"), (Str.ofString "party")], [2, 1, 0]), (13, 0, [(Str.ofString "guests"), (Str.ofString "party")], [1, 0]), (18, 0, [(Str.ofString "sizes"), (Str.ofString "party")], [1, 0])]
def pg : Pg := ⟨fs, gs, cs, ks⟩
def d_is_whole : He.DefD := ⟨((Str.ofString "is_whole"), none), (Str.ofString "is_whole"), (Str.ofString "is_whole"), defArgs (top 1), defBody (top 1), defScope (top 1), [], []⟩
def d_is_count : He.DefD := ⟨((Str.ofString "is_count"), none), (Str.ofString "is_count"), (Str.ofString "is_count"), defArgs (top 2), defBody (top 2), defScope (top 2), [.int 0], []⟩
def d_is_tuple_of : He.DefD := ⟨((Str.ofString "is_tuple_of"), none), (Str.ofString "is_tuple_of"), (Str.ofString "is_tuple_of"), defArgs (top 3), defBody (top 3), defScope (top 3), [], []⟩
def d_is_row : He.DefD := ⟨((Str.ofString "is_row"), none), (Str.ofString "is_row"), (Str.ofString "is_row"), defArgs (top 11), defBody (top 11), defScope (top 11), [], []⟩
def d_is_party : He.DefD := ⟨((Str.ofString "is_party"), none), (Str.ofString "is_party"), (Str.ofString "is_party"), defArgs (top 12), defBody (top 12), defScope (top 12), [], []⟩
def d_check_party : He.DefD := ⟨((Str.ofString "check_party"), none), (Str.ofString "check_party"), (Str.ofString "check_party"), defArgs (top 13), defBody (top 13), defScope (top 13), [], []⟩
def d_is_guest : He.DefD := ⟨((Str.ofString "is_guest"), none), (Str.ofString "is_guest"), (Str.ofString "is_guest"), defArgs (top 14), defBody (top 14), defScope (top 14), [], []⟩
def d_check_colour : He.DefD := ⟨((Str.ofString "check_colour"), none), (Str.ofString "check_colour"), (Str.ofString "check_colour"), defArgs (top 15), defBody (top 15), defScope (top 15), [], []⟩
def d_colour_there : He.DefD := ⟨((Str.ofString "colour_there"), none), (Str.ofString "colour_there"), (Str.ofString "colour_there"), defArgs (top 16), defBody (top 16), defScope (top 16), [], []⟩
def d_are_guests : He.DefD := ⟨((Str.ofString "are_guests"), none), (Str.ofString "are_guests"), (Str.ofString "are_guests"), defArgs (top 17), defBody (top 17), defScope (top 17), [], []⟩
def d_is_crowd_there : He.DefD := ⟨((Str.ofString "is_crowd_there"), none), (Str.ofString "is_crowd_there"), (Str.ofString "is_crowd_there"), defArgs (top 18), defBody (top 18), defScope (top 18), [], []⟩
def d_is_crowd : He.DefD := ⟨((Str.ofString "is_crowd"), none), (Str.ofString "is_crowd"), (Str.ofString "is_crowd"), defArgs (top 19), defBody (top 19), defScope (top 19), [], []⟩
def d_part_there : He.DefD := ⟨((Str.ofString "part_there"), none), (Str.ofString "part_there"), (Str.ofString "part_there"), defArgs (top 20), defBody (top 20), defScope (top 20), [], []⟩
def d_part_of : He.DefD := ⟨((Str.ofString "part_of"), none), (Str.ofString "part_of"), (Str.ofString "part_of"), defArgs (top 21), defBody (top 21), defScope (top 21), [], []⟩
def d_are_sizes : He.DefD := ⟨((Str.ofString "are_sizes"), none), (Str.ofString "are_sizes"), (Str.ofString "are_sizes"), defArgs (top 22), defBody (top 22), defScope (top 22), [], []⟩
def d_check_sizes : He.DefD := ⟨((Str.ofString "check_sizes"), none), (Str.ofString "check_sizes"), (Str.ofString "check_sizes"), defArgs (top 23), defBody (top 23), defScope (top 23), [], []⟩
def d_has_crowd : He.DefD := ⟨((Str.ofString "has_crowd"), none), (Str.ofString "has_crowd"), (Str.ofString "has_crowd"), defArgs (top 24), defBody (top 24), defScope (top 24), [], []⟩
def d_is_free_there : He.DefD := ⟨((Str.ofString "is_free_there"), none), (Str.ofString "is_free_there"), (Str.ofString "is_free_there"), defArgs (top 25), defBody (top 25), defScope (top 25), [], []⟩
def d_is_free : He.DefD := ⟨((Str.ofString "is_free"), none), (Str.ofString "is_free"), (Str.ofString "is_free"), defArgs (top 26), defBody (top 26), defScope (top 26), [], []⟩
def d__law_purse : He.DefD := ⟨((Str.ofString "_law_purse"), none), (Str.ofString "_law_purse"), (Str.ofString "_law_purse"), defArgs (top 28), defBody (top 28), defScope (top 28), [], []⟩
def d__law_mixed : He.DefD := ⟨((Str.ofString "_law_mixed"), none), (Str.ofString "_law_mixed"), (Str.ofString "_law_mixed"), defArgs (top 29), defBody (top 29), defScope (top 29), [], []⟩
def d__law_draw : He.DefD := ⟨((Str.ofString "_law_draw"), none), (Str.ofString "_law_draw"), (Str.ofString "_law_draw"), defArgs (top 30), defBody (top 30), defScope (top 30), [], []⟩
def d__law_one_of : He.DefD := ⟨((Str.ofString "_law_one_of"), none), (Str.ofString "_law_one_of"), (Str.ofString "_law_one_of"), defArgs (top 31), defBody (top 31), defScope (top 31), [], []⟩
def d__law_shuffled : He.DefD := ⟨((Str.ofString "_law_shuffled"), none), (Str.ofString "_law_shuffled"), (Str.ofString "_law_shuffled"), defArgs (top 32), defBody (top 32), defScope (top 32), [], []⟩
def d__law_same : He.DefD := ⟨((Str.ofString "_law_same"), none), (Str.ofString "_law_same"), (Str.ofString "_law_same"), defArgs (top 33), defBody (top 33), defScope (top 33), [], []⟩
def d__law_purses : He.DefD := ⟨((Str.ofString "_law_purses"), none), (Str.ofString "_law_purses"), (Str.ofString "_law_purses"), defArgs (top 34), defBody (top 34), defScope (top 34), [], []⟩
def d__law_chain : He.DefD := ⟨((Str.ofString "_law_chain"), none), (Str.ofString "_law_chain"), (Str.ofString "_law_chain"), defArgs (top 35), defBody (top 35), defScope (top 35), [], []⟩
def d__law_spoilt : He.DefD := ⟨((Str.ofString "_law_spoilt"), none), (Str.ofString "_law_spoilt"), (Str.ofString "_law_spoilt"), defArgs (top 36), defBody (top 36), defScope (top 36), [], []⟩
def d__law_party : He.DefD := ⟨((Str.ofString "_law_party"), none), (Str.ofString "_law_party"), (Str.ofString "_law_party"), defArgs (top 37), defBody (top 37), defScope (top 37), [], []⟩
def d__law_colour : He.DefD := ⟨((Str.ofString "_law_colour"), none), (Str.ofString "_law_colour"), (Str.ofString "_law_colour"), defArgs (top 38), defBody (top 38), defScope (top 38), [], []⟩
def d__law_lots : He.DefD := ⟨((Str.ofString "_law_lots"), none), (Str.ofString "_law_lots"), (Str.ofString "_law_lots"), defArgs (top 39), defBody (top 39), defScope (top 39), [], []⟩
def d__law_is_crowd : He.DefD := ⟨((Str.ofString "_law_is_crowd"), none), (Str.ofString "_law_is_crowd"), (Str.ofString "_law_is_crowd"), defArgs (top 40), defBody (top 40), defScope (top 40), [], []⟩
def d__law_greatest : He.DefD := ⟨((Str.ofString "_law_greatest"), none), (Str.ofString "_law_greatest"), (Str.ofString "_law_greatest"), defArgs (top 41), defBody (top 41), defScope (top 41), [], []⟩
def d__law_great_right : He.DefD := ⟨((Str.ofString "_law_great_right"), none), (Str.ofString "_law_great_right"), (Str.ofString "_law_great_right"), defArgs (top 42), defBody (top 42), defScope (top 42), [], []⟩
def d_law : He.DefD := ⟨((Str.ofString "law"), none), (Str.ofString "law"), (Str.ofString "law"), defArgs (top 43), defBody (top 43), defScope (top 43), [], []⟩
def fn : List He.DefD := [d_is_whole, d_is_count, d_is_tuple_of, d_is_row, d_is_party, d_check_party, d_is_guest, d_check_colour, d_colour_there, d_are_guests, d_is_crowd_there, d_is_crowd, d_part_there, d_part_of, d_are_sizes, d_check_sizes, d_has_crowd, d_is_free_there, d_is_free, d__law_purse, d__law_mixed, d__law_draw, d__law_one_of, d__law_shuffled, d__law_same, d__law_purses, d__law_chain, d__law_spoilt, d__law_party, d__law_colour, d__law_lots, d__law_is_crowd, d__law_greatest, d__law_great_right, d_law]
def fa : List He.Fa := gs.map .glo ++ biNames.map .free
def ad (K : PySem.W.Frag) (i : Nat) : Addr := He.ga K (gs.getD i "")
section
variable {K : PySem.W.Frag} {f : Addr} {fd : FuncData}
theorem bd_is_whole_1 (F : FunD K d_is_whole.name d_is_whole.qual d_is_whole.params d_is_whole.body d_is_whole.scope (d_is_whole.dvs K) (d_is_whole.kws K) f fd) : L2.Binds K fd x_is_whole.ps [] := FunD.bindsN F fun _ _ _ _ _ _ us hl => match us, hl with | [_], _ => rfl
theorem bd_is_count_1 (F : FunD K d_is_count.name d_is_count.qual d_is_count.params d_is_count.body d_is_count.scope (d_is_count.dvs K) (d_is_count.kws K) f fd) : ∃ ds, Vals ((d_is_count.dvs K).drop 0) ds ∧ L2.Binds K fd x_is_count.ps ds := FunD.binds1 F 1 0 (by simp [He.DefD.dvs, d_is_count]) rfl fun T kV doc pm an cdv ct us its h1 h2 => match us, its, h1, h2 with | [_], [_], _, _ => ⟨_, rfl, rfl⟩
theorem bd_is_count_2 (F : FunD K d_is_count.name d_is_count.qual d_is_count.params d_is_count.body d_is_count.scope (d_is_count.dvs K) (d_is_count.kws K) f fd) : ∃ ds, Vals ((d_is_count.dvs K).drop 1) ds ∧ L2.Binds K fd x_is_count.ps ds := FunD.binds1 F 2 1 (by simp [He.DefD.dvs, d_is_count]) rfl fun T kV doc pm an cdv ct us its h1 h2 => match us, its, h1, h2 with | [_, _], [_], _, _ => ⟨_, rfl, rfl⟩
theorem bd_is_tuple_of_2 (F : FunD K d_is_tuple_of.name d_is_tuple_of.qual d_is_tuple_of.params d_is_tuple_of.body d_is_tuple_of.scope (d_is_tuple_of.dvs K) (d_is_tuple_of.kws K) f fd) : L2.Binds K fd x_is_tuple_of.ps [] := FunD.bindsN F fun _ _ _ _ _ _ us hl => match us, hl with | [_, _], _ => rfl
theorem bd_is_row_3 (F : FunD K d_is_row.name d_is_row.qual d_is_row.params d_is_row.body d_is_row.scope (d_is_row.dvs K) (d_is_row.kws K) f fd) : L2.Binds K fd x_is_row.ps [] := FunD.bindsN F fun _ _ _ _ _ _ us hl => match us, hl with | [_, _, _], _ => rfl
theorem bd_is_party_1 (F : FunD K d_is_party.name d_is_party.qual d_is_party.params d_is_party.body d_is_party.scope (d_is_party.dvs K) (d_is_party.kws K) f fd) : L2.Binds K fd x_is_party.ps [] := FunD.bindsN F fun _ _ _ _ _ _ us hl => match us, hl with | [_], _ => rfl
theorem bd_check_party_1 (F : FunD K d_check_party.name d_check_party.qual d_check_party.params d_check_party.body d_check_party.scope (d_check_party.dvs K) (d_check_party.kws K) f fd) : L2.Binds K fd x_check_party.ps [] := FunD.bindsN F fun _ _ _ _ _ _ us hl => match us, hl with | [_], _ => rfl
theorem bd_is_guest_2 (F : FunD K d_is_guest.name d_is_guest.qual d_is_guest.params d_is_guest.body d_is_guest.scope (d_is_guest.dvs K) (d_is_guest.kws K) f fd) : L2.Binds K fd x_is_guest.ps [] := FunD.bindsN F fun _ _ _ _ _ _ us hl => match us, hl with | [_, _], _ => rfl
theorem bd_check_colour_2 (F : FunD K d_check_colour.name d_check_colour.qual d_check_colour.params d_check_colour.body d_check_colour.scope (d_check_colour.dvs K) (d_check_colour.kws K) f fd) : L2.Binds K fd x_check_colour.ps [] := FunD.bindsN F fun _ _ _ _ _ _ us hl => match us, hl with | [_, _], _ => rfl
theorem bd_colour_there_3 (F : FunD K d_colour_there.name d_colour_there.qual d_colour_there.params d_colour_there.body d_colour_there.scope (d_colour_there.dvs K) (d_colour_there.kws K) f fd) : L2.Binds K fd x_colour_there.ps [] := FunD.bindsN F fun _ _ _ _ _ _ us hl => match us, hl with | [_, _, _], _ => rfl
theorem bd_are_guests_2 (F : FunD K d_are_guests.name d_are_guests.qual d_are_guests.params d_are_guests.body d_are_guests.scope (d_are_guests.dvs K) (d_are_guests.kws K) f fd) : L2.Binds K fd x_are_guests.ps [] := FunD.bindsN F fun _ _ _ _ _ _ us hl => match us, hl with | [_, _], _ => rfl
theorem bd_is_crowd_there_3 (F : FunD K d_is_crowd_there.name d_is_crowd_there.qual d_is_crowd_there.params d_is_crowd_there.body d_is_crowd_there.scope (d_is_crowd_there.dvs K) (d_is_crowd_there.kws K) f fd) : L2.Binds K fd x_is_crowd_there.ps [] := FunD.bindsN F fun _ _ _ _ _ _ us hl => match us, hl with | [_, _, _], _ => rfl
theorem bd_is_crowd_3 (F : FunD K d_is_crowd.name d_is_crowd.qual d_is_crowd.params d_is_crowd.body d_is_crowd.scope (d_is_crowd.dvs K) (d_is_crowd.kws K) f fd) : L2.Binds K fd x_is_crowd.ps [] := FunD.bindsN F fun _ _ _ _ _ _ us hl => match us, hl with | [_, _, _], _ => rfl
theorem kb_is_crowd_0 (F : FunD K d_is_crowd.name d_is_crowd.qual d_is_crowd.params d_is_crowd.body d_is_crowd.scope (d_is_crowd.dvs K) (d_is_crowd.kws K) f fd) : ∀ (s : Shared) (us ws : List Value), K.In s.heap → us.length = 0 → ws.length = 3 → BindsTo s fd ⟨us, ([(Str.ofString "value"), (Str.ofString "colour"), (Str.ofString "party")] : List Str).zip ws⟩ (x_is_crowd.ps.zip (pick (us ++ ws) [2, 1, 0])) := by
  obtain ⟨oc, od, dV, kV, doc, pm, an, cdv, ct, osl, rfl, lk, hcd, hD, hK⟩ := F.ex
  rcases hD with ⟨_, rfl⟩ | ⟨e, _⟩
  · exact fun s us ws _ h1 h2 => match us, ws, h1, h2 with | [], [_, _, _], _, _ => BindsTo.of_eq rfl
  · exact absurd rfl e
theorem bd_part_there_2 (F : FunD K d_part_there.name d_part_there.qual d_part_there.params d_part_there.body d_part_there.scope (d_part_there.dvs K) (d_part_there.kws K) f fd) : L2.Binds K fd x_part_there.ps [] := FunD.bindsN F fun _ _ _ _ _ _ us hl => match us, hl with | [_, _], _ => rfl
theorem bd_part_of_2 (F : FunD K d_part_of.name d_part_of.qual d_part_of.params d_part_of.body d_part_of.scope (d_part_of.dvs K) (d_part_of.kws K) f fd) : L2.Binds K fd x_part_of.ps [] := FunD.bindsN F fun _ _ _ _ _ _ us hl => match us, hl with | [_, _], _ => rfl
theorem kb_part_of_0 (F : FunD K d_part_of.name d_part_of.qual d_part_of.params d_part_of.body d_part_of.scope (d_part_of.dvs K) (d_part_of.kws K) f fd) : ∀ (s : Shared) (us ws : List Value), K.In s.heap → us.length = 0 → ws.length = 2 → BindsTo s fd ⟨us, ([(Str.ofString "guests"), (Str.ofString "party")] : List Str).zip ws⟩ (x_part_of.ps.zip (pick (us ++ ws) [1, 0])) := by
  obtain ⟨oc, od, dV, kV, doc, pm, an, cdv, ct, osl, rfl, lk, hcd, hD, hK⟩ := F.ex
  rcases hD with ⟨_, rfl⟩ | ⟨e, _⟩
  · exact fun s us ws _ h1 h2 => match us, ws, h1, h2 with | [], [_, _], _, _ => BindsTo.of_eq rfl
  · exact absurd rfl e
theorem bd_are_sizes_2 (F : FunD K d_are_sizes.name d_are_sizes.qual d_are_sizes.params d_are_sizes.body d_are_sizes.scope (d_are_sizes.dvs K) (d_are_sizes.kws K) f fd) : L2.Binds K fd x_are_sizes.ps [] := FunD.bindsN F fun _ _ _ _ _ _ us hl => match us, hl with | [_, _], _ => rfl
theorem bd_check_sizes_2 (F : FunD K d_check_sizes.name d_check_sizes.qual d_check_sizes.params d_check_sizes.body d_check_sizes.scope (d_check_sizes.dvs K) (d_check_sizes.kws K) f fd) : L2.Binds K fd x_check_sizes.ps [] := FunD.bindsN F fun _ _ _ _ _ _ us hl => match us, hl with | [_, _], _ => rfl
theorem bd_has_crowd_3 (F : FunD K d_has_crowd.name d_has_crowd.qual d_has_crowd.params d_has_crowd.body d_has_crowd.scope (d_has_crowd.dvs K) (d_has_crowd.kws K) f fd) : L2.Binds K fd x_has_crowd.ps [] := FunD.bindsN F fun _ _ _ _ _ _ us hl => match us, hl with | [_, _, _], _ => rfl
theorem bd_is_free_there_2 (F : FunD K d_is_free_there.name d_is_free_there.qual d_is_free_there.params d_is_free_there.body d_is_free_there.scope (d_is_free_there.dvs K) (d_is_free_there.kws K) f fd) : L2.Binds K fd x_is_free_there.ps [] := FunD.bindsN F fun _ _ _ _ _ _ us hl => match us, hl with | [_, _], _ => rfl
theorem bd_is_free_2 (F : FunD K d_is_free.name d_is_free.qual d_is_free.params d_is_free.body d_is_free.scope (d_is_free.dvs K) (d_is_free.kws K) f fd) : L2.Binds K fd x_is_free.ps [] := FunD.bindsN F fun _ _ _ _ _ _ us hl => match us, hl with | [_, _], _ => rfl
theorem kb_is_free_0 (F : FunD K d_is_free.name d_is_free.qual d_is_free.params d_is_free.body d_is_free.scope (d_is_free.dvs K) (d_is_free.kws K) f fd) : ∀ (s : Shared) (us ws : List Value), K.In s.heap → us.length = 0 → ws.length = 2 → BindsTo s fd ⟨us, ([(Str.ofString "sizes"), (Str.ofString "party")] : List Str).zip ws⟩ (x_is_free.ps.zip (pick (us ++ ws) [1, 0])) := by
  obtain ⟨oc, od, dV, kV, doc, pm, an, cdv, ct, osl, rfl, lk, hcd, hD, hK⟩ := F.ex
  rcases hD with ⟨_, rfl⟩ | ⟨e, _⟩
  · exact fun s us ws _ h1 h2 => match us, ws, h1, h2 with | [], [_, _], _, _ => BindsTo.of_eq rfl
  · exact absurd rfl e
theorem bd__law_purse_2 (F : FunD K d__law_purse.name d__law_purse.qual d__law_purse.params d__law_purse.body d__law_purse.scope (d__law_purse.dvs K) (d__law_purse.kws K) f fd) : L2.Binds K fd x__law_purse.ps [] := FunD.bindsN F fun _ _ _ _ _ _ us hl => match us, hl with | [_, _], _ => rfl
theorem bd__law_mixed_3 (F : FunD K d__law_mixed.name d__law_mixed.qual d__law_mixed.params d__law_mixed.body d__law_mixed.scope (d__law_mixed.dvs K) (d__law_mixed.kws K) f fd) : L2.Binds K fd x__law_mixed.ps [] := FunD.bindsN F fun _ _ _ _ _ _ us hl => match us, hl with | [_, _, _], _ => rfl
theorem bd__law_draw_2 (F : FunD K d__law_draw.name d__law_draw.qual d__law_draw.params d__law_draw.body d__law_draw.scope (d__law_draw.dvs K) (d__law_draw.kws K) f fd) : L2.Binds K fd x__law_draw.ps [] := FunD.bindsN F fun _ _ _ _ _ _ us hl => match us, hl with | [_, _], _ => rfl
theorem bd__law_one_of_2 (F : FunD K d__law_one_of.name d__law_one_of.qual d__law_one_of.params d__law_one_of.body d__law_one_of.scope (d__law_one_of.dvs K) (d__law_one_of.kws K) f fd) : L2.Binds K fd x__law_one_of.ps [] := FunD.bindsN F fun _ _ _ _ _ _ us hl => match us, hl with | [_, _], _ => rfl
theorem bd__law_shuffled_2 (F : FunD K d__law_shuffled.name d__law_shuffled.qual d__law_shuffled.params d__law_shuffled.body d__law_shuffled.scope (d__law_shuffled.dvs K) (d__law_shuffled.kws K) f fd) : L2.Binds K fd x__law_shuffled.ps [] := FunD.bindsN F fun _ _ _ _ _ _ us hl => match us, hl with | [_, _], _ => rfl
theorem bd__law_same_2 (F : FunD K d__law_same.name d__law_same.qual d__law_same.params d__law_same.body d__law_same.scope (d__law_same.dvs K) (d__law_same.kws K) f fd) : L2.Binds K fd x__law_same.ps [] := FunD.bindsN F fun _ _ _ _ _ _ us hl => match us, hl with | [_, _], _ => rfl
theorem bd__law_purses_2 (F : FunD K d__law_purses.name d__law_purses.qual d__law_purses.params d__law_purses.body d__law_purses.scope (d__law_purses.dvs K) (d__law_purses.kws K) f fd) : L2.Binds K fd x__law_purses.ps [] := FunD.bindsN F fun _ _ _ _ _ _ us hl => match us, hl with | [_, _], _ => rfl
theorem bd__law_chain_1 (F : FunD K d__law_chain.name d__law_chain.qual d__law_chain.params d__law_chain.body d__law_chain.scope (d__law_chain.dvs K) (d__law_chain.kws K) f fd) : L2.Binds K fd x__law_chain.ps [] := FunD.bindsN F fun _ _ _ _ _ _ us hl => match us, hl with | [_], _ => rfl
theorem bd__law_spoilt_1 (F : FunD K d__law_spoilt.name d__law_spoilt.qual d__law_spoilt.params d__law_spoilt.body d__law_spoilt.scope (d__law_spoilt.dvs K) (d__law_spoilt.kws K) f fd) : L2.Binds K fd x__law_spoilt.ps [] := FunD.bindsN F fun _ _ _ _ _ _ us hl => match us, hl with | [_], _ => rfl
theorem bd__law_party_3 (F : FunD K d__law_party.name d__law_party.qual d__law_party.params d__law_party.body d__law_party.scope (d__law_party.dvs K) (d__law_party.kws K) f fd) : L2.Binds K fd x__law_party.ps [] := FunD.bindsN F fun _ _ _ _ _ _ us hl => match us, hl with | [_, _, _], _ => rfl
theorem bd__law_colour_3 (F : FunD K d__law_colour.name d__law_colour.qual d__law_colour.params d__law_colour.body d__law_colour.scope (d__law_colour.dvs K) (d__law_colour.kws K) f fd) : L2.Binds K fd x__law_colour.ps [] := FunD.bindsN F fun _ _ _ _ _ _ us hl => match us, hl with | [_, _, _], _ => rfl
theorem bd__law_lots_1 (F : FunD K d__law_lots.name d__law_lots.qual d__law_lots.params d__law_lots.body d__law_lots.scope (d__law_lots.dvs K) (d__law_lots.kws K) f fd) : L2.Binds K fd x__law_lots.ps [] := FunD.bindsN F fun _ _ _ _ _ _ us hl => match us, hl with | [_], _ => rfl
theorem bd__law_is_crowd_3 (F : FunD K d__law_is_crowd.name d__law_is_crowd.qual d__law_is_crowd.params d__law_is_crowd.body d__law_is_crowd.scope (d__law_is_crowd.dvs K) (d__law_is_crowd.kws K) f fd) : L2.Binds K fd x__law_is_crowd.ps [] := FunD.bindsN F fun _ _ _ _ _ _ us hl => match us, hl with | [_, _, _], _ => rfl
theorem bd__law_greatest_2 (F : FunD K d__law_greatest.name d__law_greatest.qual d__law_greatest.params d__law_greatest.body d__law_greatest.scope (d__law_greatest.dvs K) (d__law_greatest.kws K) f fd) : L2.Binds K fd x__law_greatest.ps [] := FunD.bindsN F fun _ _ _ _ _ _ us hl => match us, hl with | [_, _], _ => rfl
theorem bd__law_great_right_1 (F : FunD K d__law_great_right.name d__law_great_right.qual d__law_great_right.params d__law_great_right.body d__law_great_right.scope (d__law_great_right.dvs K) (d__law_great_right.kws K) f fd) : L2.Binds K fd x__law_great_right.ps [] := FunD.bindsN F fun _ _ _ _ _ _ us hl => match us, hl with | [_], _ => rfl
theorem at_is_whole {mg : Str → Option Value} (g : mg (Str.ofString "is_whole") = some (.ref (ad K 0))) (F : FunD K d_is_whole.name d_is_whole.qual d_is_whole.params d_is_whole.body d_is_whole.scope (d_is_whole.dvs K) (d_is_whole.kws K) (ad K 0) fd) : FunAt K mg pg (ad K) 0 x_is_whole fd where
  glo := g
  fun_ := ⟨_, _, _, _, _, F⟩
  call := fun n dv h => by
    have h : (n, dv) ∈ ([(1, [])] : List (Nat × List Vl)) := selC_of h
    simp only [List.mem_cons, Prod.mk.injEq, List.not_mem_nil, or_false] at h
    obtain ⟨rfl, rfl⟩ := h
    exact ⟨[], [], .nil, fun _ => .nil, rfl, bd_is_whole_1 F⟩
  kcall := fun n k pm h => by
    have h : (n, k, pm) ∈ ([] : List (Nat × List Str × List Nat)) := selC_of h
    exact (List.not_mem_nil h).elim
theorem at_is_count {mg : Str → Option Value} (g : mg (Str.ofString "is_count") = some (.ref (ad K 1))) (F : FunD K d_is_count.name d_is_count.qual d_is_count.params d_is_count.body d_is_count.scope (d_is_count.dvs K) (d_is_count.kws K) (ad K 1) fd) : FunAt K mg pg (ad K) 1 x_is_count fd where
  glo := g
  fun_ := ⟨_, _, _, _, _, F⟩
  call := fun n dv h => by
    have h : (n, dv) ∈ ([(1, [(.int 0)]), (2, [])] : List (Nat × List Vl)) := selC_of h
    simp only [List.mem_cons, Prod.mk.injEq, List.not_mem_nil, or_false] at h
    rcases h with ⟨rfl, rfl⟩ | ⟨rfl, rfl⟩
    · exact let ⟨ds, h1, h2⟩ := bd_is_count_1 F; ⟨ds, (d_is_count.dvs K).drop 0, h1, fun _ => (.cons rfl .nil), rfl, h2⟩
    · exact let ⟨ds, h1, h2⟩ := bd_is_count_2 F; ⟨ds, (d_is_count.dvs K).drop 1, h1, fun _ => .nil, rfl, h2⟩
  kcall := fun n k pm h => by
    have h : (n, k, pm) ∈ ([] : List (Nat × List Str × List Nat)) := selC_of h
    exact (List.not_mem_nil h).elim
theorem at_is_tuple_of {mg : Str → Option Value} (g : mg (Str.ofString "is_tuple_of") = some (.ref (ad K 2))) (F : FunD K d_is_tuple_of.name d_is_tuple_of.qual d_is_tuple_of.params d_is_tuple_of.body d_is_tuple_of.scope (d_is_tuple_of.dvs K) (d_is_tuple_of.kws K) (ad K 2) fd) : FunAt K mg pg (ad K) 2 x_is_tuple_of fd where
  glo := g
  fun_ := ⟨_, _, _, _, _, F⟩
  call := fun n dv h => by
    have h : (n, dv) ∈ ([(2, [])] : List (Nat × List Vl)) := selC_of h
    simp only [List.mem_cons, Prod.mk.injEq, List.not_mem_nil, or_false] at h
    obtain ⟨rfl, rfl⟩ := h
    exact ⟨[], [], .nil, fun _ => .nil, rfl, bd_is_tuple_of_2 F⟩
  kcall := fun n k pm h => by
    have h : (n, k, pm) ∈ ([] : List (Nat × List Str × List Nat)) := selC_of h
    exact (List.not_mem_nil h).elim
theorem at_is_row {mg : Str → Option Value} (g : mg (Str.ofString "is_row") = some (.ref (ad K 3))) (F : FunD K d_is_row.name d_is_row.qual d_is_row.params d_is_row.body d_is_row.scope (d_is_row.dvs K) (d_is_row.kws K) (ad K 3) fd) : FunAt K mg pg (ad K) 3 x_is_row fd where
  glo := g
  fun_ := ⟨_, _, _, _, _, F⟩
  call := fun n dv h => by
    have h : (n, dv) ∈ ([(3, [])] : List (Nat × List Vl)) := selC_of h
    simp only [List.mem_cons, Prod.mk.injEq, List.not_mem_nil, or_false] at h
    obtain ⟨rfl, rfl⟩ := h
    exact ⟨[], [], .nil, fun _ => .nil, rfl, bd_is_row_3 F⟩
  kcall := fun n k pm h => by
    have h : (n, k, pm) ∈ ([] : List (Nat × List Str × List Nat)) := selC_of h
    exact (List.not_mem_nil h).elim
theorem at_is_party {mg : Str → Option Value} (g : mg (Str.ofString "is_party") = some (.ref (ad K 4))) (F : FunD K d_is_party.name d_is_party.qual d_is_party.params d_is_party.body d_is_party.scope (d_is_party.dvs K) (d_is_party.kws K) (ad K 4) fd) : FunAt K mg pg (ad K) 4 x_is_party fd where
  glo := g
  fun_ := ⟨_, _, _, _, _, F⟩
  call := fun n dv h => by
    have h : (n, dv) ∈ ([(1, [])] : List (Nat × List Vl)) := selC_of h
    simp only [List.mem_cons, Prod.mk.injEq, List.not_mem_nil, or_false] at h
    obtain ⟨rfl, rfl⟩ := h
    exact ⟨[], [], .nil, fun _ => .nil, rfl, bd_is_party_1 F⟩
  kcall := fun n k pm h => by
    have h : (n, k, pm) ∈ ([] : List (Nat × List Str × List Nat)) := selC_of h
    exact (List.not_mem_nil h).elim
theorem at_check_party {mg : Str → Option Value} (g : mg (Str.ofString "check_party") = some (.ref (ad K 5))) (F : FunD K d_check_party.name d_check_party.qual d_check_party.params d_check_party.body d_check_party.scope (d_check_party.dvs K) (d_check_party.kws K) (ad K 5) fd) : FunAt K mg pg (ad K) 5 x_check_party fd where
  glo := g
  fun_ := ⟨_, _, _, _, _, F⟩
  call := fun n dv h => by
    have h : (n, dv) ∈ ([(1, [])] : List (Nat × List Vl)) := selC_of h
    simp only [List.mem_cons, Prod.mk.injEq, List.not_mem_nil, or_false] at h
    obtain ⟨rfl, rfl⟩ := h
    exact ⟨[], [], .nil, fun _ => .nil, rfl, bd_check_party_1 F⟩
  kcall := fun n k pm h => by
    have h : (n, k, pm) ∈ ([] : List (Nat × List Str × List Nat)) := selC_of h
    exact (List.not_mem_nil h).elim
theorem at_is_guest {mg : Str → Option Value} (g : mg (Str.ofString "is_guest") = some (.ref (ad K 6))) (F : FunD K d_is_guest.name d_is_guest.qual d_is_guest.params d_is_guest.body d_is_guest.scope (d_is_guest.dvs K) (d_is_guest.kws K) (ad K 6) fd) : FunAt K mg pg (ad K) 6 x_is_guest fd where
  glo := g
  fun_ := ⟨_, _, _, _, _, F⟩
  call := fun n dv h => by
    have h : (n, dv) ∈ ([(2, [])] : List (Nat × List Vl)) := selC_of h
    simp only [List.mem_cons, Prod.mk.injEq, List.not_mem_nil, or_false] at h
    obtain ⟨rfl, rfl⟩ := h
    exact ⟨[], [], .nil, fun _ => .nil, rfl, bd_is_guest_2 F⟩
  kcall := fun n k pm h => by
    have h : (n, k, pm) ∈ ([] : List (Nat × List Str × List Nat)) := selC_of h
    exact (List.not_mem_nil h).elim
theorem at_check_colour {mg : Str → Option Value} (g : mg (Str.ofString "check_colour") = some (.ref (ad K 7))) (F : FunD K d_check_colour.name d_check_colour.qual d_check_colour.params d_check_colour.body d_check_colour.scope (d_check_colour.dvs K) (d_check_colour.kws K) (ad K 7) fd) : FunAt K mg pg (ad K) 7 x_check_colour fd where
  glo := g
  fun_ := ⟨_, _, _, _, _, F⟩
  call := fun n dv h => by
    have h : (n, dv) ∈ ([(2, [])] : List (Nat × List Vl)) := selC_of h
    simp only [List.mem_cons, Prod.mk.injEq, List.not_mem_nil, or_false] at h
    obtain ⟨rfl, rfl⟩ := h
    exact ⟨[], [], .nil, fun _ => .nil, rfl, bd_check_colour_2 F⟩
  kcall := fun n k pm h => by
    have h : (n, k, pm) ∈ ([] : List (Nat × List Str × List Nat)) := selC_of h
    exact (List.not_mem_nil h).elim
theorem at_colour_there {mg : Str → Option Value} (g : mg (Str.ofString "colour_there") = some (.ref (ad K 8))) (F : FunD K d_colour_there.name d_colour_there.qual d_colour_there.params d_colour_there.body d_colour_there.scope (d_colour_there.dvs K) (d_colour_there.kws K) (ad K 8) fd) : FunAt K mg pg (ad K) 8 x_colour_there fd where
  glo := g
  fun_ := ⟨_, _, _, _, _, F⟩
  call := fun n dv h => by
    have h : (n, dv) ∈ ([(3, [])] : List (Nat × List Vl)) := selC_of h
    simp only [List.mem_cons, Prod.mk.injEq, List.not_mem_nil, or_false] at h
    obtain ⟨rfl, rfl⟩ := h
    exact ⟨[], [], .nil, fun _ => .nil, rfl, bd_colour_there_3 F⟩
  kcall := fun n k pm h => by
    have h : (n, k, pm) ∈ ([] : List (Nat × List Str × List Nat)) := selC_of h
    exact (List.not_mem_nil h).elim
theorem at_are_guests {mg : Str → Option Value} (g : mg (Str.ofString "are_guests") = some (.ref (ad K 9))) (F : FunD K d_are_guests.name d_are_guests.qual d_are_guests.params d_are_guests.body d_are_guests.scope (d_are_guests.dvs K) (d_are_guests.kws K) (ad K 9) fd) : FunAt K mg pg (ad K) 9 x_are_guests fd where
  glo := g
  fun_ := ⟨_, _, _, _, _, F⟩
  call := fun n dv h => by
    have h : (n, dv) ∈ ([(2, [])] : List (Nat × List Vl)) := selC_of h
    simp only [List.mem_cons, Prod.mk.injEq, List.not_mem_nil, or_false] at h
    obtain ⟨rfl, rfl⟩ := h
    exact ⟨[], [], .nil, fun _ => .nil, rfl, bd_are_guests_2 F⟩
  kcall := fun n k pm h => by
    have h : (n, k, pm) ∈ ([] : List (Nat × List Str × List Nat)) := selC_of h
    exact (List.not_mem_nil h).elim
theorem at_is_crowd_there {mg : Str → Option Value} (g : mg (Str.ofString "is_crowd_there") = some (.ref (ad K 10))) (F : FunD K d_is_crowd_there.name d_is_crowd_there.qual d_is_crowd_there.params d_is_crowd_there.body d_is_crowd_there.scope (d_is_crowd_there.dvs K) (d_is_crowd_there.kws K) (ad K 10) fd) : FunAt K mg pg (ad K) 10 x_is_crowd_there fd where
  glo := g
  fun_ := ⟨_, _, _, _, _, F⟩
  call := fun n dv h => by
    have h : (n, dv) ∈ ([(3, [])] : List (Nat × List Vl)) := selC_of h
    simp only [List.mem_cons, Prod.mk.injEq, List.not_mem_nil, or_false] at h
    obtain ⟨rfl, rfl⟩ := h
    exact ⟨[], [], .nil, fun _ => .nil, rfl, bd_is_crowd_there_3 F⟩
  kcall := fun n k pm h => by
    have h : (n, k, pm) ∈ ([] : List (Nat × List Str × List Nat)) := selC_of h
    exact (List.not_mem_nil h).elim
theorem at_is_crowd {mg : Str → Option Value} (g : mg (Str.ofString "is_crowd") = some (.ref (ad K 11))) (F : FunD K d_is_crowd.name d_is_crowd.qual d_is_crowd.params d_is_crowd.body d_is_crowd.scope (d_is_crowd.dvs K) (d_is_crowd.kws K) (ad K 11) fd) : FunAt K mg pg (ad K) 11 x_is_crowd fd where
  glo := g
  fun_ := ⟨_, _, _, _, _, F⟩
  call := fun n dv h => by
    have h : (n, dv) ∈ ([(3, [])] : List (Nat × List Vl)) := selC_of h
    simp only [List.mem_cons, Prod.mk.injEq, List.not_mem_nil, or_false] at h
    obtain ⟨rfl, rfl⟩ := h
    exact ⟨[], [], .nil, fun _ => .nil, rfl, bd_is_crowd_3 F⟩
  kcall := fun n k pm h => by
    have h : (n, k, pm) ∈ ([(0, [(Str.ofString "value"), (Str.ofString "colour"), (Str.ofString "party")], [2, 1, 0])] : List (Nat × List Str × List Nat)) := selC_of h
    simp only [List.mem_cons, Prod.mk.injEq, List.not_mem_nil, or_false] at h
    obtain ⟨rfl, rfl, rfl⟩ := h
    exact ⟨rfl, by decide, kb_is_crowd_0 F⟩
theorem at_part_there {mg : Str → Option Value} (g : mg (Str.ofString "part_there") = some (.ref (ad K 12))) (F : FunD K d_part_there.name d_part_there.qual d_part_there.params d_part_there.body d_part_there.scope (d_part_there.dvs K) (d_part_there.kws K) (ad K 12) fd) : FunAt K mg pg (ad K) 12 x_part_there fd where
  glo := g
  fun_ := ⟨_, _, _, _, _, F⟩
  call := fun n dv h => by
    have h : (n, dv) ∈ ([(2, [])] : List (Nat × List Vl)) := selC_of h
    simp only [List.mem_cons, Prod.mk.injEq, List.not_mem_nil, or_false] at h
    obtain ⟨rfl, rfl⟩ := h
    exact ⟨[], [], .nil, fun _ => .nil, rfl, bd_part_there_2 F⟩
  kcall := fun n k pm h => by
    have h : (n, k, pm) ∈ ([] : List (Nat × List Str × List Nat)) := selC_of h
    exact (List.not_mem_nil h).elim
theorem at_part_of {mg : Str → Option Value} (g : mg (Str.ofString "part_of") = some (.ref (ad K 13))) (F : FunD K d_part_of.name d_part_of.qual d_part_of.params d_part_of.body d_part_of.scope (d_part_of.dvs K) (d_part_of.kws K) (ad K 13) fd) : FunAt K mg pg (ad K) 13 x_part_of fd where
  glo := g
  fun_ := ⟨_, _, _, _, _, F⟩
  call := fun n dv h => by
    have h : (n, dv) ∈ ([(2, [])] : List (Nat × List Vl)) := selC_of h
    simp only [List.mem_cons, Prod.mk.injEq, List.not_mem_nil, or_false] at h
    obtain ⟨rfl, rfl⟩ := h
    exact ⟨[], [], .nil, fun _ => .nil, rfl, bd_part_of_2 F⟩
  kcall := fun n k pm h => by
    have h : (n, k, pm) ∈ ([(0, [(Str.ofString "guests"), (Str.ofString "party")], [1, 0])] : List (Nat × List Str × List Nat)) := selC_of h
    simp only [List.mem_cons, Prod.mk.injEq, List.not_mem_nil, or_false] at h
    obtain ⟨rfl, rfl, rfl⟩ := h
    exact ⟨rfl, by decide, kb_part_of_0 F⟩
theorem at_are_sizes {mg : Str → Option Value} (g : mg (Str.ofString "are_sizes") = some (.ref (ad K 14))) (F : FunD K d_are_sizes.name d_are_sizes.qual d_are_sizes.params d_are_sizes.body d_are_sizes.scope (d_are_sizes.dvs K) (d_are_sizes.kws K) (ad K 14) fd) : FunAt K mg pg (ad K) 14 x_are_sizes fd where
  glo := g
  fun_ := ⟨_, _, _, _, _, F⟩
  call := fun n dv h => by
    have h : (n, dv) ∈ ([(2, [])] : List (Nat × List Vl)) := selC_of h
    simp only [List.mem_cons, Prod.mk.injEq, List.not_mem_nil, or_false] at h
    obtain ⟨rfl, rfl⟩ := h
    exact ⟨[], [], .nil, fun _ => .nil, rfl, bd_are_sizes_2 F⟩
  kcall := fun n k pm h => by
    have h : (n, k, pm) ∈ ([] : List (Nat × List Str × List Nat)) := selC_of h
    exact (List.not_mem_nil h).elim
theorem at_check_sizes {mg : Str → Option Value} (g : mg (Str.ofString "check_sizes") = some (.ref (ad K 15))) (F : FunD K d_check_sizes.name d_check_sizes.qual d_check_sizes.params d_check_sizes.body d_check_sizes.scope (d_check_sizes.dvs K) (d_check_sizes.kws K) (ad K 15) fd) : FunAt K mg pg (ad K) 15 x_check_sizes fd where
  glo := g
  fun_ := ⟨_, _, _, _, _, F⟩
  call := fun n dv h => by
    have h : (n, dv) ∈ ([(2, [])] : List (Nat × List Vl)) := selC_of h
    simp only [List.mem_cons, Prod.mk.injEq, List.not_mem_nil, or_false] at h
    obtain ⟨rfl, rfl⟩ := h
    exact ⟨[], [], .nil, fun _ => .nil, rfl, bd_check_sizes_2 F⟩
  kcall := fun n k pm h => by
    have h : (n, k, pm) ∈ ([] : List (Nat × List Str × List Nat)) := selC_of h
    exact (List.not_mem_nil h).elim
theorem at_has_crowd {mg : Str → Option Value} (g : mg (Str.ofString "has_crowd") = some (.ref (ad K 16))) (F : FunD K d_has_crowd.name d_has_crowd.qual d_has_crowd.params d_has_crowd.body d_has_crowd.scope (d_has_crowd.dvs K) (d_has_crowd.kws K) (ad K 16) fd) : FunAt K mg pg (ad K) 16 x_has_crowd fd where
  glo := g
  fun_ := ⟨_, _, _, _, _, F⟩
  call := fun n dv h => by
    have h : (n, dv) ∈ ([(3, [])] : List (Nat × List Vl)) := selC_of h
    simp only [List.mem_cons, Prod.mk.injEq, List.not_mem_nil, or_false] at h
    obtain ⟨rfl, rfl⟩ := h
    exact ⟨[], [], .nil, fun _ => .nil, rfl, bd_has_crowd_3 F⟩
  kcall := fun n k pm h => by
    have h : (n, k, pm) ∈ ([] : List (Nat × List Str × List Nat)) := selC_of h
    exact (List.not_mem_nil h).elim
theorem at_is_free_there {mg : Str → Option Value} (g : mg (Str.ofString "is_free_there") = some (.ref (ad K 17))) (F : FunD K d_is_free_there.name d_is_free_there.qual d_is_free_there.params d_is_free_there.body d_is_free_there.scope (d_is_free_there.dvs K) (d_is_free_there.kws K) (ad K 17) fd) : FunAt K mg pg (ad K) 17 x_is_free_there fd where
  glo := g
  fun_ := ⟨_, _, _, _, _, F⟩
  call := fun n dv h => by
    have h : (n, dv) ∈ ([(2, [])] : List (Nat × List Vl)) := selC_of h
    simp only [List.mem_cons, Prod.mk.injEq, List.not_mem_nil, or_false] at h
    obtain ⟨rfl, rfl⟩ := h
    exact ⟨[], [], .nil, fun _ => .nil, rfl, bd_is_free_there_2 F⟩
  kcall := fun n k pm h => by
    have h : (n, k, pm) ∈ ([] : List (Nat × List Str × List Nat)) := selC_of h
    exact (List.not_mem_nil h).elim
theorem at_is_free {mg : Str → Option Value} (g : mg (Str.ofString "is_free") = some (.ref (ad K 18))) (F : FunD K d_is_free.name d_is_free.qual d_is_free.params d_is_free.body d_is_free.scope (d_is_free.dvs K) (d_is_free.kws K) (ad K 18) fd) : FunAt K mg pg (ad K) 18 x_is_free fd where
  glo := g
  fun_ := ⟨_, _, _, _, _, F⟩
  call := fun n dv h => by
    have h : (n, dv) ∈ ([(2, [])] : List (Nat × List Vl)) := selC_of h
    simp only [List.mem_cons, Prod.mk.injEq, List.not_mem_nil, or_false] at h
    obtain ⟨rfl, rfl⟩ := h
    exact ⟨[], [], .nil, fun _ => .nil, rfl, bd_is_free_2 F⟩
  kcall := fun n k pm h => by
    have h : (n, k, pm) ∈ ([(0, [(Str.ofString "sizes"), (Str.ofString "party")], [1, 0])] : List (Nat × List Str × List Nat)) := selC_of h
    simp only [List.mem_cons, Prod.mk.injEq, List.not_mem_nil, or_false] at h
    obtain ⟨rfl, rfl, rfl⟩ := h
    exact ⟨rfl, by decide, kb_is_free_0 F⟩
theorem at__law_purse {mg : Str → Option Value} (g : mg (Str.ofString "_law_purse") = some (.ref (ad K 19))) (F : FunD K d__law_purse.name d__law_purse.qual d__law_purse.params d__law_purse.body d__law_purse.scope (d__law_purse.dvs K) (d__law_purse.kws K) (ad K 19) fd) : FunAt K mg pg (ad K) 19 x__law_purse fd where
  glo := g
  fun_ := ⟨_, _, _, _, _, F⟩
  call := fun n dv h => by
    have h : (n, dv) ∈ ([(2, [])] : List (Nat × List Vl)) := selC_of h
    simp only [List.mem_cons, Prod.mk.injEq, List.not_mem_nil, or_false] at h
    obtain ⟨rfl, rfl⟩ := h
    exact ⟨[], [], .nil, fun _ => .nil, rfl, bd__law_purse_2 F⟩
  kcall := fun n k pm h => by
    have h : (n, k, pm) ∈ ([] : List (Nat × List Str × List Nat)) := selC_of h
    exact (List.not_mem_nil h).elim
theorem at__law_mixed {mg : Str → Option Value} (g : mg (Str.ofString "_law_mixed") = some (.ref (ad K 20))) (F : FunD K d__law_mixed.name d__law_mixed.qual d__law_mixed.params d__law_mixed.body d__law_mixed.scope (d__law_mixed.dvs K) (d__law_mixed.kws K) (ad K 20) fd) : FunAt K mg pg (ad K) 20 x__law_mixed fd where
  glo := g
  fun_ := ⟨_, _, _, _, _, F⟩
  call := fun n dv h => by
    have h : (n, dv) ∈ ([(3, [])] : List (Nat × List Vl)) := selC_of h
    simp only [List.mem_cons, Prod.mk.injEq, List.not_mem_nil, or_false] at h
    obtain ⟨rfl, rfl⟩ := h
    exact ⟨[], [], .nil, fun _ => .nil, rfl, bd__law_mixed_3 F⟩
  kcall := fun n k pm h => by
    have h : (n, k, pm) ∈ ([] : List (Nat × List Str × List Nat)) := selC_of h
    exact (List.not_mem_nil h).elim
theorem at__law_draw {mg : Str → Option Value} (g : mg (Str.ofString "_law_draw") = some (.ref (ad K 21))) (F : FunD K d__law_draw.name d__law_draw.qual d__law_draw.params d__law_draw.body d__law_draw.scope (d__law_draw.dvs K) (d__law_draw.kws K) (ad K 21) fd) : FunAt K mg pg (ad K) 21 x__law_draw fd where
  glo := g
  fun_ := ⟨_, _, _, _, _, F⟩
  call := fun n dv h => by
    have h : (n, dv) ∈ ([(2, [])] : List (Nat × List Vl)) := selC_of h
    simp only [List.mem_cons, Prod.mk.injEq, List.not_mem_nil, or_false] at h
    obtain ⟨rfl, rfl⟩ := h
    exact ⟨[], [], .nil, fun _ => .nil, rfl, bd__law_draw_2 F⟩
  kcall := fun n k pm h => by
    have h : (n, k, pm) ∈ ([] : List (Nat × List Str × List Nat)) := selC_of h
    exact (List.not_mem_nil h).elim
theorem at__law_one_of {mg : Str → Option Value} (g : mg (Str.ofString "_law_one_of") = some (.ref (ad K 22))) (F : FunD K d__law_one_of.name d__law_one_of.qual d__law_one_of.params d__law_one_of.body d__law_one_of.scope (d__law_one_of.dvs K) (d__law_one_of.kws K) (ad K 22) fd) : FunAt K mg pg (ad K) 22 x__law_one_of fd where
  glo := g
  fun_ := ⟨_, _, _, _, _, F⟩
  call := fun n dv h => by
    have h : (n, dv) ∈ ([(2, [])] : List (Nat × List Vl)) := selC_of h
    simp only [List.mem_cons, Prod.mk.injEq, List.not_mem_nil, or_false] at h
    obtain ⟨rfl, rfl⟩ := h
    exact ⟨[], [], .nil, fun _ => .nil, rfl, bd__law_one_of_2 F⟩
  kcall := fun n k pm h => by
    have h : (n, k, pm) ∈ ([] : List (Nat × List Str × List Nat)) := selC_of h
    exact (List.not_mem_nil h).elim
theorem at__law_shuffled {mg : Str → Option Value} (g : mg (Str.ofString "_law_shuffled") = some (.ref (ad K 23))) (F : FunD K d__law_shuffled.name d__law_shuffled.qual d__law_shuffled.params d__law_shuffled.body d__law_shuffled.scope (d__law_shuffled.dvs K) (d__law_shuffled.kws K) (ad K 23) fd) : FunAt K mg pg (ad K) 23 x__law_shuffled fd where
  glo := g
  fun_ := ⟨_, _, _, _, _, F⟩
  call := fun n dv h => by
    have h : (n, dv) ∈ ([(2, [])] : List (Nat × List Vl)) := selC_of h
    simp only [List.mem_cons, Prod.mk.injEq, List.not_mem_nil, or_false] at h
    obtain ⟨rfl, rfl⟩ := h
    exact ⟨[], [], .nil, fun _ => .nil, rfl, bd__law_shuffled_2 F⟩
  kcall := fun n k pm h => by
    have h : (n, k, pm) ∈ ([] : List (Nat × List Str × List Nat)) := selC_of h
    exact (List.not_mem_nil h).elim
theorem at__law_same {mg : Str → Option Value} (g : mg (Str.ofString "_law_same") = some (.ref (ad K 24))) (F : FunD K d__law_same.name d__law_same.qual d__law_same.params d__law_same.body d__law_same.scope (d__law_same.dvs K) (d__law_same.kws K) (ad K 24) fd) : FunAt K mg pg (ad K) 24 x__law_same fd where
  glo := g
  fun_ := ⟨_, _, _, _, _, F⟩
  call := fun n dv h => by
    have h : (n, dv) ∈ ([(2, [])] : List (Nat × List Vl)) := selC_of h
    simp only [List.mem_cons, Prod.mk.injEq, List.not_mem_nil, or_false] at h
    obtain ⟨rfl, rfl⟩ := h
    exact ⟨[], [], .nil, fun _ => .nil, rfl, bd__law_same_2 F⟩
  kcall := fun n k pm h => by
    have h : (n, k, pm) ∈ ([] : List (Nat × List Str × List Nat)) := selC_of h
    exact (List.not_mem_nil h).elim
theorem at__law_purses {mg : Str → Option Value} (g : mg (Str.ofString "_law_purses") = some (.ref (ad K 25))) (F : FunD K d__law_purses.name d__law_purses.qual d__law_purses.params d__law_purses.body d__law_purses.scope (d__law_purses.dvs K) (d__law_purses.kws K) (ad K 25) fd) : FunAt K mg pg (ad K) 25 x__law_purses fd where
  glo := g
  fun_ := ⟨_, _, _, _, _, F⟩
  call := fun n dv h => by
    have h : (n, dv) ∈ ([(2, [])] : List (Nat × List Vl)) := selC_of h
    simp only [List.mem_cons, Prod.mk.injEq, List.not_mem_nil, or_false] at h
    obtain ⟨rfl, rfl⟩ := h
    exact ⟨[], [], .nil, fun _ => .nil, rfl, bd__law_purses_2 F⟩
  kcall := fun n k pm h => by
    have h : (n, k, pm) ∈ ([] : List (Nat × List Str × List Nat)) := selC_of h
    exact (List.not_mem_nil h).elim
theorem at__law_chain {mg : Str → Option Value} (g : mg (Str.ofString "_law_chain") = some (.ref (ad K 26))) (F : FunD K d__law_chain.name d__law_chain.qual d__law_chain.params d__law_chain.body d__law_chain.scope (d__law_chain.dvs K) (d__law_chain.kws K) (ad K 26) fd) : FunAt K mg pg (ad K) 26 x__law_chain fd where
  glo := g
  fun_ := ⟨_, _, _, _, _, F⟩
  call := fun n dv h => by
    have h : (n, dv) ∈ ([(1, [])] : List (Nat × List Vl)) := selC_of h
    simp only [List.mem_cons, Prod.mk.injEq, List.not_mem_nil, or_false] at h
    obtain ⟨rfl, rfl⟩ := h
    exact ⟨[], [], .nil, fun _ => .nil, rfl, bd__law_chain_1 F⟩
  kcall := fun n k pm h => by
    have h : (n, k, pm) ∈ ([] : List (Nat × List Str × List Nat)) := selC_of h
    exact (List.not_mem_nil h).elim
theorem at__law_spoilt {mg : Str → Option Value} (g : mg (Str.ofString "_law_spoilt") = some (.ref (ad K 27))) (F : FunD K d__law_spoilt.name d__law_spoilt.qual d__law_spoilt.params d__law_spoilt.body d__law_spoilt.scope (d__law_spoilt.dvs K) (d__law_spoilt.kws K) (ad K 27) fd) : FunAt K mg pg (ad K) 27 x__law_spoilt fd where
  glo := g
  fun_ := ⟨_, _, _, _, _, F⟩
  call := fun n dv h => by
    have h : (n, dv) ∈ ([(1, [])] : List (Nat × List Vl)) := selC_of h
    simp only [List.mem_cons, Prod.mk.injEq, List.not_mem_nil, or_false] at h
    obtain ⟨rfl, rfl⟩ := h
    exact ⟨[], [], .nil, fun _ => .nil, rfl, bd__law_spoilt_1 F⟩
  kcall := fun n k pm h => by
    have h : (n, k, pm) ∈ ([] : List (Nat × List Str × List Nat)) := selC_of h
    exact (List.not_mem_nil h).elim
theorem at__law_party {mg : Str → Option Value} (g : mg (Str.ofString "_law_party") = some (.ref (ad K 28))) (F : FunD K d__law_party.name d__law_party.qual d__law_party.params d__law_party.body d__law_party.scope (d__law_party.dvs K) (d__law_party.kws K) (ad K 28) fd) : FunAt K mg pg (ad K) 28 x__law_party fd where
  glo := g
  fun_ := ⟨_, _, _, _, _, F⟩
  call := fun n dv h => by
    have h : (n, dv) ∈ ([(3, [])] : List (Nat × List Vl)) := selC_of h
    simp only [List.mem_cons, Prod.mk.injEq, List.not_mem_nil, or_false] at h
    obtain ⟨rfl, rfl⟩ := h
    exact ⟨[], [], .nil, fun _ => .nil, rfl, bd__law_party_3 F⟩
  kcall := fun n k pm h => by
    have h : (n, k, pm) ∈ ([] : List (Nat × List Str × List Nat)) := selC_of h
    exact (List.not_mem_nil h).elim
theorem at__law_colour {mg : Str → Option Value} (g : mg (Str.ofString "_law_colour") = some (.ref (ad K 29))) (F : FunD K d__law_colour.name d__law_colour.qual d__law_colour.params d__law_colour.body d__law_colour.scope (d__law_colour.dvs K) (d__law_colour.kws K) (ad K 29) fd) : FunAt K mg pg (ad K) 29 x__law_colour fd where
  glo := g
  fun_ := ⟨_, _, _, _, _, F⟩
  call := fun n dv h => by
    have h : (n, dv) ∈ ([(3, [])] : List (Nat × List Vl)) := selC_of h
    simp only [List.mem_cons, Prod.mk.injEq, List.not_mem_nil, or_false] at h
    obtain ⟨rfl, rfl⟩ := h
    exact ⟨[], [], .nil, fun _ => .nil, rfl, bd__law_colour_3 F⟩
  kcall := fun n k pm h => by
    have h : (n, k, pm) ∈ ([] : List (Nat × List Str × List Nat)) := selC_of h
    exact (List.not_mem_nil h).elim
theorem at__law_lots {mg : Str → Option Value} (g : mg (Str.ofString "_law_lots") = some (.ref (ad K 30))) (F : FunD K d__law_lots.name d__law_lots.qual d__law_lots.params d__law_lots.body d__law_lots.scope (d__law_lots.dvs K) (d__law_lots.kws K) (ad K 30) fd) : FunAt K mg pg (ad K) 30 x__law_lots fd where
  glo := g
  fun_ := ⟨_, _, _, _, _, F⟩
  call := fun n dv h => by
    have h : (n, dv) ∈ ([(1, [])] : List (Nat × List Vl)) := selC_of h
    simp only [List.mem_cons, Prod.mk.injEq, List.not_mem_nil, or_false] at h
    obtain ⟨rfl, rfl⟩ := h
    exact ⟨[], [], .nil, fun _ => .nil, rfl, bd__law_lots_1 F⟩
  kcall := fun n k pm h => by
    have h : (n, k, pm) ∈ ([] : List (Nat × List Str × List Nat)) := selC_of h
    exact (List.not_mem_nil h).elim
theorem at__law_is_crowd {mg : Str → Option Value} (g : mg (Str.ofString "_law_is_crowd") = some (.ref (ad K 31))) (F : FunD K d__law_is_crowd.name d__law_is_crowd.qual d__law_is_crowd.params d__law_is_crowd.body d__law_is_crowd.scope (d__law_is_crowd.dvs K) (d__law_is_crowd.kws K) (ad K 31) fd) : FunAt K mg pg (ad K) 31 x__law_is_crowd fd where
  glo := g
  fun_ := ⟨_, _, _, _, _, F⟩
  call := fun n dv h => by
    have h : (n, dv) ∈ ([(3, [])] : List (Nat × List Vl)) := selC_of h
    simp only [List.mem_cons, Prod.mk.injEq, List.not_mem_nil, or_false] at h
    obtain ⟨rfl, rfl⟩ := h
    exact ⟨[], [], .nil, fun _ => .nil, rfl, bd__law_is_crowd_3 F⟩
  kcall := fun n k pm h => by
    have h : (n, k, pm) ∈ ([] : List (Nat × List Str × List Nat)) := selC_of h
    exact (List.not_mem_nil h).elim
theorem at__law_greatest {mg : Str → Option Value} (g : mg (Str.ofString "_law_greatest") = some (.ref (ad K 32))) (F : FunD K d__law_greatest.name d__law_greatest.qual d__law_greatest.params d__law_greatest.body d__law_greatest.scope (d__law_greatest.dvs K) (d__law_greatest.kws K) (ad K 32) fd) : FunAt K mg pg (ad K) 32 x__law_greatest fd where
  glo := g
  fun_ := ⟨_, _, _, _, _, F⟩
  call := fun n dv h => by
    have h : (n, dv) ∈ ([(2, [])] : List (Nat × List Vl)) := selC_of h
    simp only [List.mem_cons, Prod.mk.injEq, List.not_mem_nil, or_false] at h
    obtain ⟨rfl, rfl⟩ := h
    exact ⟨[], [], .nil, fun _ => .nil, rfl, bd__law_greatest_2 F⟩
  kcall := fun n k pm h => by
    have h : (n, k, pm) ∈ ([] : List (Nat × List Str × List Nat)) := selC_of h
    exact (List.not_mem_nil h).elim
theorem at__law_great_right {mg : Str → Option Value} (g : mg (Str.ofString "_law_great_right") = some (.ref (ad K 33))) (F : FunD K d__law_great_right.name d__law_great_right.qual d__law_great_right.params d__law_great_right.body d__law_great_right.scope (d__law_great_right.dvs K) (d__law_great_right.kws K) (ad K 33) fd) : FunAt K mg pg (ad K) 33 x__law_great_right fd where
  glo := g
  fun_ := ⟨_, _, _, _, _, F⟩
  call := fun n dv h => by
    have h : (n, dv) ∈ ([(1, [])] : List (Nat × List Vl)) := selC_of h
    simp only [List.mem_cons, Prod.mk.injEq, List.not_mem_nil, or_false] at h
    obtain ⟨rfl, rfl⟩ := h
    exact ⟨[], [], .nil, fun _ => .nil, rfl, bd__law_great_right_1 F⟩
  kcall := fun n k pm h => by
    have h : (n, k, pm) ∈ ([] : List (Nat × List Str × List Nat)) := selC_of h
    exact (List.not_mem_nil h).elim
theorem at_law {mg : Str → Option Value} (g : mg (Str.ofString "law") = some (.ref (ad K 34))) (F : FunD K d_law.name d_law.qual d_law.params d_law.body d_law.scope (d_law.dvs K) (d_law.kws K) (ad K 34) fd) : FunAt K mg pg (ad K) 34 x_law fd where
  glo := g
  fun_ := ⟨_, _, _, _, _, F⟩
  call := fun n dv h => by
    have h : (n, dv) ∈ ([] : List (Nat × List Vl)) := selC_of h
    exact (List.not_mem_nil h).elim
  kcall := fun n k pm h => by
    have h : (n, k, pm) ∈ ([] : List (Nat × List Str × List Nat)) := selC_of h
    exact (List.not_mem_nil h).elim
end
theorem fact_of {K : PySem.W.Frag} (c : He.SaysD fa fn K) {f : He.Fa} (h : f ∈ fa) : f.ok K = true := by
  obtain ⟨i, hi⟩ := List.getElem?_of_mem h
  exact c.fact i hi
theorem mod_at {K : PySem.W.Frag} {h : Heap} {mg : Str → Option Value} (X : K.In h) (G : h.Ns mainGlobals mg) (c : He.SaysD fa fn K) : ModAt K mg pg (ad K) := by
  have glo : ∀ i x, gs[i]? = some x → mg x = some (.ref (ad K i)) := fun i x hx => by
    have e : ad K i = He.ga K x := by unfold ad; rw [List.getD_eq_getElem?_getD, hx]; rfl
    rw [e]
    exact He.glo_ok X G (fact_of c (List.mem_append_left _ (List.mem_map.mpr ⟨x, List.mem_of_getElem? hx, rfl⟩)))
  refine ⟨glo, fun x hx => He.free_ok X G (fact_of c (List.mem_append_right _ (List.mem_map.mpr ⟨x, hx, rfl⟩))), fun f x hx => ?_⟩
  match f, hx with
  | 0, rfl => exact let ⟨fd, F⟩ := c.def_ 0 (d := d_is_whole) rfl; ⟨fd, at_is_whole (glo 0 _ rfl) F⟩
  | 1, rfl => exact let ⟨fd, F⟩ := c.def_ 1 (d := d_is_count) rfl; ⟨fd, at_is_count (glo 1 _ rfl) F⟩
  | 2, rfl => exact let ⟨fd, F⟩ := c.def_ 2 (d := d_is_tuple_of) rfl; ⟨fd, at_is_tuple_of (glo 2 _ rfl) F⟩
  | 3, rfl => exact let ⟨fd, F⟩ := c.def_ 3 (d := d_is_row) rfl; ⟨fd, at_is_row (glo 3 _ rfl) F⟩
  | 4, rfl => exact let ⟨fd, F⟩ := c.def_ 4 (d := d_is_party) rfl; ⟨fd, at_is_party (glo 4 _ rfl) F⟩
  | 5, rfl => exact let ⟨fd, F⟩ := c.def_ 5 (d := d_check_party) rfl; ⟨fd, at_check_party (glo 5 _ rfl) F⟩
  | 6, rfl => exact let ⟨fd, F⟩ := c.def_ 6 (d := d_is_guest) rfl; ⟨fd, at_is_guest (glo 6 _ rfl) F⟩
  | 7, rfl => exact let ⟨fd, F⟩ := c.def_ 7 (d := d_check_colour) rfl; ⟨fd, at_check_colour (glo 7 _ rfl) F⟩
  | 8, rfl => exact let ⟨fd, F⟩ := c.def_ 8 (d := d_colour_there) rfl; ⟨fd, at_colour_there (glo 8 _ rfl) F⟩
  | 9, rfl => exact let ⟨fd, F⟩ := c.def_ 9 (d := d_are_guests) rfl; ⟨fd, at_are_guests (glo 9 _ rfl) F⟩
  | 10, rfl => exact let ⟨fd, F⟩ := c.def_ 10 (d := d_is_crowd_there) rfl; ⟨fd, at_is_crowd_there (glo 10 _ rfl) F⟩
  | 11, rfl => exact let ⟨fd, F⟩ := c.def_ 11 (d := d_is_crowd) rfl; ⟨fd, at_is_crowd (glo 11 _ rfl) F⟩
  | 12, rfl => exact let ⟨fd, F⟩ := c.def_ 12 (d := d_part_there) rfl; ⟨fd, at_part_there (glo 12 _ rfl) F⟩
  | 13, rfl => exact let ⟨fd, F⟩ := c.def_ 13 (d := d_part_of) rfl; ⟨fd, at_part_of (glo 13 _ rfl) F⟩
  | 14, rfl => exact let ⟨fd, F⟩ := c.def_ 14 (d := d_are_sizes) rfl; ⟨fd, at_are_sizes (glo 14 _ rfl) F⟩
  | 15, rfl => exact let ⟨fd, F⟩ := c.def_ 15 (d := d_check_sizes) rfl; ⟨fd, at_check_sizes (glo 15 _ rfl) F⟩
  | 16, rfl => exact let ⟨fd, F⟩ := c.def_ 16 (d := d_has_crowd) rfl; ⟨fd, at_has_crowd (glo 16 _ rfl) F⟩
  | 17, rfl => exact let ⟨fd, F⟩ := c.def_ 17 (d := d_is_free_there) rfl; ⟨fd, at_is_free_there (glo 17 _ rfl) F⟩
  | 18, rfl => exact let ⟨fd, F⟩ := c.def_ 18 (d := d_is_free) rfl; ⟨fd, at_is_free (glo 18 _ rfl) F⟩
  | 19, rfl => exact let ⟨fd, F⟩ := c.def_ 19 (d := d__law_purse) rfl; ⟨fd, at__law_purse (glo 19 _ rfl) F⟩
  | 20, rfl => exact let ⟨fd, F⟩ := c.def_ 20 (d := d__law_mixed) rfl; ⟨fd, at__law_mixed (glo 20 _ rfl) F⟩
  | 21, rfl => exact let ⟨fd, F⟩ := c.def_ 21 (d := d__law_draw) rfl; ⟨fd, at__law_draw (glo 21 _ rfl) F⟩
  | 22, rfl => exact let ⟨fd, F⟩ := c.def_ 22 (d := d__law_one_of) rfl; ⟨fd, at__law_one_of (glo 22 _ rfl) F⟩
  | 23, rfl => exact let ⟨fd, F⟩ := c.def_ 23 (d := d__law_shuffled) rfl; ⟨fd, at__law_shuffled (glo 23 _ rfl) F⟩
  | 24, rfl => exact let ⟨fd, F⟩ := c.def_ 24 (d := d__law_same) rfl; ⟨fd, at__law_same (glo 24 _ rfl) F⟩
  | 25, rfl => exact let ⟨fd, F⟩ := c.def_ 25 (d := d__law_purses) rfl; ⟨fd, at__law_purses (glo 25 _ rfl) F⟩
  | 26, rfl => exact let ⟨fd, F⟩ := c.def_ 26 (d := d__law_chain) rfl; ⟨fd, at__law_chain (glo 26 _ rfl) F⟩
  | 27, rfl => exact let ⟨fd, F⟩ := c.def_ 27 (d := d__law_spoilt) rfl; ⟨fd, at__law_spoilt (glo 27 _ rfl) F⟩
  | 28, rfl => exact let ⟨fd, F⟩ := c.def_ 28 (d := d__law_party) rfl; ⟨fd, at__law_party (glo 28 _ rfl) F⟩
  | 29, rfl => exact let ⟨fd, F⟩ := c.def_ 29 (d := d__law_colour) rfl; ⟨fd, at__law_colour (glo 29 _ rfl) F⟩
  | 30, rfl => exact let ⟨fd, F⟩ := c.def_ 30 (d := d__law_lots) rfl; ⟨fd, at__law_lots (glo 30 _ rfl) F⟩
  | 31, rfl => exact let ⟨fd, F⟩ := c.def_ 31 (d := d__law_is_crowd) rfl; ⟨fd, at__law_is_crowd (glo 31 _ rfl) F⟩
  | 32, rfl => exact let ⟨fd, F⟩ := c.def_ 32 (d := d__law_greatest) rfl; ⟨fd, at__law_greatest (glo 32 _ rfl) F⟩
  | 33, rfl => exact let ⟨fd, F⟩ := c.def_ 33 (d := d__law_great_right) rfl; ⟨fd, at__law_great_right (glo 33 _ rfl) F⟩
  | 34, rfl => exact let ⟨fd, F⟩ := c.def_ 34 (d := d_law) rfl; ⟨fd, at_law (glo 34 _ rfl) F⟩
  | n + 35, hx => exact nomatch hx
/-- the law, if the small language says True -/
theorem ends {dp : Nat} (hr : Room dp callerA) (hc : pg.chk = true) (pl : ∀ ns : List Int, ns.length ≤ 63 → ∃ S, calls TT dp 34 [.ref 0] (sto0 ns) = .ok (.bl true) S)
    (w : World) (mg : Str → Option Value) (f : Addr) (h : Heap) (K : PySem.W.Frag) (X : K.In h) (c : He.SaysD fa fn K) (G : h.Ns mainGlobals mg) (hm : mg "law" = some (.ref f)) :
    ∃ (fd : FuncData) (sp : Sp), (∀ (s : Shared) (u : Value), BindsTo s fd ⟨[u], []⟩ [("script", u)]) ∧
      (∀ (a : Addr) (vs : List Value) (ns : List Int), ns.length ≤ 63 → sp [.ref a] (scrH a vs ns) (fun v _ => v = .bl true) fun _ _ _ => False) ∧ ∀ base : Heap, FnG PySem.Challenge.rw_boundtobe_k03_whole_crowds_judged.prog w K mg base dp f fd ["script"] sp := by
  have M := mod_at X G c
  obtain ⟨fd, F⟩ := c.def_ 34 (d := d_law) rfl
  have g := M.glo 34 "law" rfl
  cases hm.symm.trans g
  have b := FunD.bindsA (ps := ["script"]) F fun _ _ _ _ _ _ us hl => match us, hl with | [_], _ => rfl
  refine ⟨fd, spF K (ad K) (calls TT dp) 34 1, fun s v => b s [v] rfl, fun a vs ns hl => ?_, fun base => fns_ok M hc dp 34 x_law fd rfl (at_law g F)⟩
  obtain ⟨S, e⟩ := pl ns hl
  exact spF_law e
abbrev R : PySem.W.OpenRow := PySem.W.OpenLaw.row PySem.Challenge.rw_boundtobe_k03_whole_crowds_judged
theorem run (w : World) : HandSHeadRun.RunEq R (PySem.W.view R.prog [43]) (hookL 4 fa fn) (obL 4 fa fn) 4000 [(Str.ofString "is_whole"), (Str.ofString "is_count"), (Str.ofString "is_tuple_of"), (Str.ofString "BoundError"), (Str.ofString "InvalidParty"), (Str.ofString "InvalidColour"), (Str.ofString "InvalidGuests"), (Str.ofString "InvalidSizes"), (Str.ofString "is_row"), (Str.ofString "is_party"), (Str.ofString "check_party"), (Str.ofString "is_guest"), (Str.ofString "check_colour"), (Str.ofString "colour_there"), (Str.ofString "are_guests"), (Str.ofString "is_crowd_there"), (Str.ofString "is_crowd"), (Str.ofString "part_there"), (Str.ofString "part_of"), (Str.ofString "are_sizes"), (Str.ofString "check_sizes"), (Str.ofString "has_crowd"), (Str.ofString "is_free_there"), (Str.ofString "is_free"), (Str.ofString "_law_purse"), (Str.ofString "_law_mixed"), (Str.ofString "_law_draw"), (Str.ofString "_law_one_of"), (Str.ofString "_law_shuffled"), (Str.ofString "_law_same"), (Str.ofString "_law_purses"), (Str.ofString "_law_chain"), (Str.ofString "_law_spoilt"), (Str.ofString "_law_party"), (Str.ofString "_law_colour"), (Str.ofString "_law_lots"), (Str.ofString "_law_is_crowd"), (Str.ofString "_law_greatest"), (Str.ofString "_law_great_right")] w := by
  intro os
  kernel_rfl
end D
end MP
open PySem PySem.W PySem.Calls PyProof.Rows
theorem the_law_of (hc : MP.D.pg.chk = true) (pl : ∀ ns : List Int, ns.length ≤ 63 → ∃ S, MP.calls MP.D.TT 40 34 [.ref 0] (MP.sto0 ns) = .ok (.bl true) S) : PySem.Challenge.rw_boundtobe_k03_whole_crowds_judged.Holds := by
  w_on; o_law
  refine HandSHeadRun.head_any (r := OpenLaw.row PySem.Challenge.rw_boundtobe_k03_whole_crowds_judged) (q := view (OpenLaw.row PySem.Challenge.rw_boundtobe_k03_whole_crowds_judged).prog [43]) (H := MP.hookL 4 MP.D.fa MP.D.fn) (ob := MP.obL 4 MP.D.fa MP.D.fn) (M := 4000) (loose := [(Str.ofString "is_whole"), (Str.ofString "is_count"), (Str.ofString "is_tuple_of"), (Str.ofString "BoundError"), (Str.ofString "InvalidParty"), (Str.ofString "InvalidColour"), (Str.ofString "InvalidGuests"), (Str.ofString "InvalidSizes"), (Str.ofString "is_row"), (Str.ofString "is_party"), (Str.ofString "check_party"), (Str.ofString "is_guest"), (Str.ofString "check_colour"), (Str.ofString "colour_there"), (Str.ofString "are_guests"), (Str.ofString "is_crowd_there"), (Str.ofString "is_crowd"), (Str.ofString "part_there"), (Str.ofString "part_of"), (Str.ofString "are_sizes"), (Str.ofString "check_sizes"), (Str.ofString "has_crowd"), (Str.ofString "is_free_there"), (Str.ofString "is_free"), (Str.ofString "_law_purse"), (Str.ofString "_law_mixed"), (Str.ofString "_law_draw"), (Str.ofString "_law_one_of"), (Str.ofString "_law_shuffled"), (Str.ofString "_law_same"), (Str.ofString "_law_purses"), (Str.ofString "_law_chain"), (Str.ofString "_law_spoilt"), (Str.ofString "_law_party"), (Str.ofString "_law_colour"), (Str.ofString "_law_lots"), (Str.ofString "_law_is_crowd"), (Str.ofString "_law_greatest"), (Str.ofString "_law_great_right")]) (d := HandSHeadRun.topDef (OpenLaw.row PySem.Challenge.rw_boundtobe_k03_whole_crowds_judged).prog 43) (kwd := []) MP.obL_eq
    (by kernel_rfl) (fun s => by kernel_rfl) MP.D.run (by kernel_rfl) (by kernel_rfl) (by kernel_rfl) (by rfl) (by first | assumption | decide +kernel) (by decide +kernel) ⟨rfl, rfl, rfl, rfl, rfl, by decide +kernel⟩ ?hw ?hc
  case hw => w_witness2
  case hc =>
    refine MP.walk_mp (l := PySem.Challenge.rw_boundtobe_k03_whole_crowds_judged) (n := 63) (k := 40) (x := "script") rfl (by decide) (by kernel_rfl) ⟨rfl, by decide, by decide⟩ fun w mg f h K X c G hm => MP.D.ends ⟨rfl, by decide, by decide⟩ hc pl w mg f h K X c G ?_
    have e : (HandSHeadRun.topDef (OpenLaw.row PySem.Challenge.rw_boundtobe_k03_whole_crowds_judged).prog 43).name = ("law" : PySem.Str) := by kernel_rfl
    rw [← e]
    exact hm
namespace MP
open PySem
mutual
def D.okD : D → Bool
  | .lst _ xs => Nat.ble xs.length 100000 && D.okL xs
  | .tup xs => Nat.ble xs.length 100000 && D.okL xs
  | .pur _ => false
  | .str s => PyData.strOk s && Nat.ble s.length lineN
  | _ => true
def D.okL : List D → Bool
  | [] => true
  | d :: ds => d.okD && D.okL ds
end
theorem D.okL_mem : ∀ {xs : List D} {x : D}, D.okL xs = true → x ∈ xs → x.okD = true
  | y :: ys, x, h, hm => by
    obtain ⟨h1, h2⟩ := and2 h
    rcases List.mem_cons.mp hm with e | hm
    · subst e; exact h1
    · exact D.okL_mem h2 hm
theorem D.okD_bt {x : D} (h : x.okD = true) : x.bt.isSome = true := by
  cases x <;> first | rfl | cases h
namespace K03
open MP.D
def sp : Specs := fun f => if f = 21 then some wDraw else none
def md : Nat → Option (List Nat × List Nat) := fun f => if f = 16 then some ([3], []) else if f = 23 then some ([2], []) else none
abbrev W (d : Nat) : WCl := wclO TT sp md d
variable {d : Nat} {Q : D → Prop}
def isIntB : D → Bool
  | .int _ => true
  | _ => false
theorem is_whole_ok {x : D} (h : x.okD = true) (q : Q (.bl (isIntB x))) : W (d + 1) 0 [x] Q := by
  refine wclO_body (F := ⟨1, 1, b_is_whole⟩) rfl rfl rfl rfl ?_
  unfold b_is_whole startD
  cases x <;> first | (cases h; done) | skip
  all_goals
    simp only [WR, WO, WL, isBad, dvD, mapAtD, anyBT, Tgs.len, List.map_cons, List.map_nil, List.replicate, List.length_cons, List.length_nil, List.cons_append, List.nil_append, List.append_nil, Option.some.injEq, exists_eq_left', exists_eq_left, Option.map_some, Option.bind_some, wEq_int, wNe_int, wEq_bl, wNe_bl, D.bl.injEq, D.int.injEq, wipeD, and_true, true_and, Int.zero_add, Int.toNat_natCast, Bool.or_false, Bool.or_true, Bool.false_or, Bool.true_or, Bool.not_true, Bool.not_false, WRS]
    exact q
def cntB (x : D) (lo : Int) : Bool := match x with
  | .int i => decide ((if lo < 0 then 0 else lo) ≤ i)
  | _ => false
theorem is_count_ok {x : D} {lo : Int} (h : x.okD = true) (q : Q (.bl (cntB x lo))) : W (d + 2) 1 [x, .int lo] Q := by
  refine wclO_body (F := ⟨2, 2, b_is_count⟩) rfl rfl rfl rfl ?_
  unfold b_is_count startD
  simp only [WR, WO, WL, isBad, dvD, mapAtD, anyBT, Tgs.len, List.map_cons, List.map_nil, List.replicate, List.length_cons, List.length_nil, List.cons_append, List.nil_append, List.append_nil, Option.some.injEq, exists_eq_left', exists_eq_left, Option.map_some, Option.bind_some, wEq_int, wNe_int, wEq_bl, wNe_bl, D.bl.injEq, D.int.injEq, wipeD, and_true, true_and, Int.zero_add, Int.toNat_natCast, Bool.or_false, Bool.or_true, Bool.false_or, Bool.true_or, Bool.not_true, Bool.not_false, WRS]
  refine is_whole_ok h ⟨_, rfl, ?_⟩
  cases x <;> exact q
theorem is_count_int {i lo : Int} (q : Q (.bl (decide ((if lo < 0 then 0 else lo) ≤ i)))) : W (d + 2) 1 [.int i, .int lo] Q := is_count_ok rfl q
def tupB (n : Int) : D → Bool
  | .tup xs => decide ((xs.length : Int) = n)
  | _ => false
theorem is_tuple_ok {x : D} {n : Int} (h : x.okD = true) (q : Q (.bl (tupB n x))) : W (d + 1) 2 [x, .int n] Q := by
  refine wclO_body (F := ⟨2, 2, b_is_tuple_of⟩) rfl rfl rfl rfl ?_
  unfold b_is_tuple_of startD
  cases x <;> first | (cases h; done) | skip
  all_goals
    simp only [WR, WO, WL, isBad, dvD, mapAtD, anyBT, Tgs.len, List.map_cons, List.map_nil, List.replicate, List.length_cons, List.length_nil, List.cons_append, List.nil_append, List.append_nil, Option.some.injEq, exists_eq_left', exists_eq_left, Option.map_some, Option.bind_some, wEq_int, wNe_int, wEq_bl, wNe_bl, D.bl.injEq, D.int.injEq, wipeD, and_true, true_and, Int.zero_add, Int.toNat_natCast, Bool.or_false, Bool.or_true, Bool.false_or, Bool.true_or, Bool.not_true, Bool.not_false, WRS]
    exact q
def okc (c : Int) (x : D) : Bool := match x with
  | .int i => decide (0 ≤ i) && decide (i < c)
  | _ => false
def rowB (c m : Int) (v : D) : Bool := match v with
  | .lst _ xs => decide ((xs.length : Int) = m) && xs.all (okc c)
  | _ => false
theorem is_row_ok {c m : Int} {v : D} (h : v.okD = true) (q : Q (.bl (rowB c m v))) : W (d + 3) 3 [.int c, .int m, v] Q := by
  refine wclO_body (F := ⟨3, 4, b_is_row⟩) rfl rfl rfl rfl ?_
  unfold b_is_row startD
  cases v with
  | lst t xs =>
    obtain ⟨h1, h2⟩ := and2 h
    have h1 := Nat.le_of_ble_eq_true h1
    simp only [WR, WO, WL, isBad, dvD, mapAtD, anyBT, Tgs.len, List.map_cons, List.map_nil, List.replicate, List.length_cons, List.length_nil, List.cons_append, List.nil_append, List.append_nil, Option.some.injEq, exists_eq_left', exists_eq_left, Option.map_some, Option.bind_some, wEq_int, wNe_int, wEq_bl, wNe_bl, D.bl.injEq, D.int.injEq, wipeD, and_true, true_and, Int.zero_add, Int.toNat_natCast, Bool.or_false, Bool.or_true, Bool.false_or, Bool.true_or, Bool.not_true, Bool.not_false, WRS]
    by_cases e : (xs.length : Int) = m
    · rw [decide_eq_true e]
      dsimp only
      refine ⟨small_LF h1, lc_det (fun x => .bl (okc c x)) xs (fun x hx K F k => ?_) (small_line h1) ?_⟩
      · simp only [WR, WO, WL, isBad, dvD, mapAtD, anyBT, Tgs.len, List.map_cons, List.map_nil, List.replicate, List.length_cons, List.length_nil, List.cons_append, List.nil_append, List.append_nil, Option.some.injEq, exists_eq_left', exists_eq_left, Option.map_some, Option.bind_some, wEq_int, wNe_int, wEq_bl, wNe_bl, D.bl.injEq, D.int.injEq, wipeD, and_true, true_and, Int.zero_add, Int.toNat_natCast, Bool.or_false, Bool.or_true, Bool.false_or, Bool.true_or, Bool.not_true, Bool.not_false, WRS]
        refine is_count_ok (D.okL_mem h2 hx) ?_
        cases x with
        | int i =>
          have k : K (.bl (decide (0 ≤ i) && decide (i < c))) := k
          simp only [WR, WO, WL, isBad, dvD, mapAtD, anyBT, Tgs.len, List.map_cons, List.map_nil, List.replicate, List.length_cons, List.length_nil, List.cons_append, List.nil_append, List.append_nil, Option.some.injEq, exists_eq_left', exists_eq_left, Option.map_some, Option.bind_some, wEq_int, wNe_int, wEq_bl, wNe_bl, D.bl.injEq, D.int.injEq, wipeD, and_true, true_and, Int.zero_add, Int.toNat_natCast, Bool.or_false, Bool.or_true, Bool.false_or, Bool.true_or, Bool.not_true, Bool.not_false, WRS, cntB, ite_self]
          by_cases z : 0 ≤ i
          · rw [decide_eq_true z] at k ⊢
            exact k
          · rw [decide_eq_false z] at k ⊢
            exact k
        | _ => exact ⟨_, rfl, k⟩
      · have q : Q (.bl (decide ((xs.length : Int) = m) && xs.all (okc c))) := q
        refine ⟨xs.map (okc c), ?_, ?_⟩
        · show D.bls (xs.map fun x => D.bl (okc c x)) = _
          rw [show (xs.map fun x => D.bl (okc c x)) = (xs.map (okc c)).map D.bl by rw [List.map_map]; rfl]
          exact D.bls_map _
        · rw [decide_eq_true e, Bool.true_and] at q
          rw [band_all, List.all_map]
          exact q
    · have q : Q (.bl (decide ((xs.length : Int) = m) && xs.all (okc c))) := q
      rw [decide_eq_false e] at q ⊢
      exact q
  | pur n => cases h
  | _ =>
    simp only [WR, WO, WL, isBad, dvD, mapAtD, anyBT, Tgs.len, List.map_cons, List.map_nil, List.replicate, List.length_cons, List.length_nil, List.cons_append, List.nil_append, List.append_nil, Option.some.injEq, exists_eq_left', exists_eq_left, Option.map_some, Option.bind_some, wEq_int, wNe_int, wEq_bl, wNe_bl, D.bl.injEq, D.int.injEq, wipeD, and_true, true_and, Int.zero_add, Int.toNat_natCast, Bool.or_false, Bool.or_true, Bool.false_or, Bool.true_or, Bool.not_true, Bool.not_false, WRS]
    exact q
def rowsB (c : Int) : Nat → List D → Bool
  | _, [] => true
  | k, r :: rs => rowB c k r && rowsB c (k + 1) rs
def partyB (v : D) : Bool := match v with
  | .tup [.int c, .lst _ rs] => decide (1 ≤ c) && rowsB c 0 rs
  | _ => false
theorem rows_band (c : Int) : ∀ (rs : List D) (k : Nat), band ((enumD rs k).map fun x => match x with | .tup [.int i, r] => rowB c i r | _ => false) = rowsB c k rs
  | [], _ => rfl
  | r :: rs, k => by
    show (rowB c k r && band _) = _
    rw [rows_band c rs (k + 1)]
    rfl
theorem is_party_ok {v : D} (h : v.okD = true) (q : Q (.bl (partyB v))) : W (d + 4) 4 [v] Q := by
  refine wclO_body (F := ⟨1, 3, b_is_party⟩) rfl rfl rfl rfl ?_
  unfold b_is_party startD
  simp only [WR, WO, WL, isBad, dvD, mapAtD, anyBT, Tgs.len, List.map_cons, List.map_nil, List.replicate, List.length_cons, List.length_nil, List.cons_append, List.nil_append, List.append_nil, Option.some.injEq, exists_eq_left', exists_eq_left, Option.map_some, Option.bind_some, wEq_int, wNe_int, wEq_bl, wNe_bl, D.bl.injEq, D.int.injEq, wipeD, and_true, true_and, Int.zero_add, Int.toNat_natCast, Bool.or_false, Bool.or_true, Bool.false_or, Bool.true_or, Bool.not_true, Bool.not_false, WRS]
  refine is_tuple_ok (d := d + 2) h ?_
  simp only [WR, WO, WL, isBad, dvD, mapAtD, anyBT, Tgs.len, List.map_cons, List.map_nil, List.replicate, List.length_cons, List.length_nil, List.cons_append, List.nil_append, List.append_nil, Option.some.injEq, exists_eq_left', exists_eq_left, Option.map_some, Option.bind_some, wEq_int, wNe_int, wEq_bl, wNe_bl, D.bl.injEq, D.int.injEq, wipeD, and_true, true_and, Int.zero_add, Int.toNat_natCast, Bool.or_false, Bool.or_true, Bool.false_or, Bool.true_or, Bool.not_true, Bool.not_false, WRS]
  have no : ∀ {v : D}, (∀ a b, v ≠ .tup [a, b]) → tupB 2 v = false := fun {v} hv => by
    cases v with
    | tup xs =>
      match xs, hv with
      | [], _ => rfl
      | [_], _ => rfl
      | [a, b], hv => exact absurd rfl (hv a b)
      | _ :: _ :: _ :: r, _ => exact decide_eq_false (show ¬ (((r.length + 1 + 1 + 1 : Nat) : Int) = 2) by omega)
    | _ => rfl
  by_cases c : ∃ a b, v = .tup [a, b]
  · obtain ⟨a, b, rfl⟩ := c
    simp only [D.okD, D.okL, Bool.and_eq_true] at h
    obtain ⟨_, h3, h4, _⟩ := h
    have e0 : atA [a, b] 0 = some a := rfl
    have e1 : atA [a, b] 1 = some b := rfl
    simp only [WR, WO, WL, isBad, dvD, mapAtD, anyBT, Tgs.len, List.map_cons, List.map_nil, List.replicate, List.length_cons, List.length_nil, List.cons_append, List.nil_append, List.append_nil, Option.some.injEq, exists_eq_left', exists_eq_left, Option.map_some, Option.bind_some, wEq_int, wNe_int, wEq_bl, wNe_bl, D.bl.injEq, D.int.injEq, wipeD, and_true, true_and, Int.zero_add, Int.toNat_natCast, Bool.or_false, Bool.or_true, Bool.false_or, Bool.true_or, Bool.not_true, Bool.not_false, WRS, tupB, e0, e1]
    refine is_count_ok (d := d + 1) h3 ?_
    simp only [WR, WO, WL, isBad, dvD, mapAtD, anyBT, Tgs.len, List.map_cons, List.map_nil, List.replicate, List.length_cons, List.length_nil, List.cons_append, List.nil_append, List.append_nil, Option.some.injEq, exists_eq_left', exists_eq_left, Option.map_some, Option.bind_some, wEq_int, wNe_int, wEq_bl, wNe_bl, D.bl.injEq, D.int.injEq, wipeD, and_true, true_and, Int.zero_add, Int.toNat_natCast, Bool.or_false, Bool.or_true, Bool.false_or, Bool.true_or, Bool.not_true, Bool.not_false, WRS]
    cases ea : cntB a 1 with
    | false =>
      have : partyB (.tup [a, b]) = false := by
        unfold partyB
        split
        · rename_i c t rs e
          cases e
          rw [show decide (1 ≤ c) = cntB (.int c) 1 from rfl, ea]
          rfl
        · rfl
      rw [this] at q
      exact q
    | true =>
      simp only [WR, WO, WL, isBad, dvD, mapAtD, anyBT, Tgs.len, List.map_cons, List.map_nil, List.replicate, List.length_cons, List.length_nil, List.cons_append, List.nil_append, List.append_nil, Option.some.injEq, exists_eq_left', exists_eq_left, Option.map_some, Option.bind_some, wEq_int, wNe_int, wEq_bl, wNe_bl, D.bl.injEq, D.int.injEq, wipeD, and_true, true_and, Int.zero_add, Int.toNat_natCast, Bool.or_false, Bool.or_true, Bool.false_or, Bool.true_or, Bool.not_true, Bool.not_false, WRS]
      cases a with
      | int c =>
        cases b with
        | lst t rs =>
          simp only [D.okD, Bool.and_eq_true] at h4
          obtain ⟨h5, h6⟩ := h4
          have h5 := Nat.le_of_ble_eq_true h5
          simp only [WR, WO, WL, isBad, dvD, mapAtD, anyBT, Tgs.len, List.map_cons, List.map_nil, List.replicate, List.length_cons, List.length_nil, List.cons_append, List.nil_append, List.append_nil, Option.some.injEq, exists_eq_left', exists_eq_left, Option.map_some, Option.bind_some, wEq_int, wNe_int, wEq_bl, wNe_bl, D.bl.injEq, D.int.injEq, wipeD, and_true, true_and, Int.zero_add, Int.toNat_natCast, Bool.or_false, Bool.or_true, Bool.false_or, Bool.true_or, Bool.not_true, Bool.not_false, WRS]
          refine ⟨by rw [enum_len]; exact small_LF h5, ?_⟩
          refine lc_det (fun x => .bl (match x with | .tup [.int i, r] => rowB c i r | _ => false)) _ (fun x hx K F k => ?_) (by rw [enum_len]; exact small_line h5) ?_
          · obtain ⟨i, hi⟩ := List.getElem?_of_mem hx
            rw [enum_get] at hi
            cases er : rs[i]? with
            | none => rw [er] at hi; cases hi
            | some r =>
              rw [er] at hi
              cases hi
              have e0 : atA [D.int c, .lst t rs] 0 = some (.int c) := rfl
              simp only [WR, WO, WL, isBad, dvD, mapAtD, anyBT, Tgs.len, List.map_cons, List.map_nil, List.replicate, List.length_cons, List.length_nil, List.cons_append, List.nil_append, List.append_nil, Option.some.injEq, exists_eq_left', exists_eq_left, Option.map_some, Option.bind_some, wEq_int, wNe_int, wEq_bl, wNe_bl, D.bl.injEq, D.int.injEq, wipeD, and_true, true_and, Int.zero_add, Int.toNat_natCast, Bool.or_false, Bool.or_true, Bool.false_or, Bool.true_or, Bool.not_true, Bool.not_false, WRS, e0]
              exact is_row_ok (D.okL_mem h6 (List.mem_of_getElem? er)) k
          · refine ⟨(enumD rs 0).map fun x => match x with | .tup [.int i, r] => rowB c i r | _ => false, ?_, ?_⟩
            · show D.bls ((enumD rs 0).map fun x => D.bl _) = _
              rw [show ((enumD rs 0).map fun x => D.bl (match x with | .tup [.int i, r] => rowB c i r | _ => false)) = ((enumD rs 0).map fun x => match x with | .tup [.int i, r] => rowB c i r | _ => false).map D.bl by rw [List.map_map]; rfl]
              exact D.bls_map _
            · have rb := rows_band c rs 0
              rw [rb]
              have q : Q (.bl (decide (1 ≤ c) && rowsB c 0 rs)) := q
              rw [show decide (1 ≤ c) = cntB (.int c) 1 from rfl, ea] at q
              exact q
        | pur n => cases h4
        | _ =>
          simp only [WR, WO, WL, isBad, dvD, mapAtD, anyBT, Tgs.len, List.map_cons, List.map_nil, List.replicate, List.length_cons, List.length_nil, List.cons_append, List.nil_append, List.append_nil, Option.some.injEq, exists_eq_left', exists_eq_left, Option.map_some, Option.bind_some, wEq_int, wNe_int, wEq_bl, wNe_bl, D.bl.injEq, D.int.injEq, wipeD, and_true, true_and, Int.zero_add, Int.toNat_natCast, Bool.or_false, Bool.or_true, Bool.false_or, Bool.true_or, Bool.not_true, Bool.not_false, WRS]
          exact q
      | _ => cases ea
  · have hv : ∀ a b, v ≠ .tup [a, b] := fun a b e => c ⟨a, b, e⟩
    rw [no hv]
    have : partyB v = false := by
      unfold partyB
      split
      · exact absurd rfl (hv _ _)
      · rfl
    rw [this] at q
    simp only [WR, WO, WL, isBad, dvD, mapAtD, anyBT, Tgs.len, List.map_cons, List.map_nil, List.replicate, List.length_cons, List.length_nil, List.cons_append, List.nil_append, List.append_nil, Option.some.injEq, exists_eq_left', exists_eq_left, Option.map_some, Option.bind_some, wEq_int, wNe_int, wEq_bl, wNe_bl, D.bl.injEq, D.int.injEq, wipeD, and_true, true_and, Int.zero_add, Int.toNat_natCast, Bool.or_false, Bool.or_true, Bool.false_or, Bool.true_or, Bool.not_true, Bool.not_false, WRS]
    exact q
end K03
end MP
namespace MP
open PySem
namespace K03
open MP.D
variable {d : Nat} {Q : D → Prop}
theorem rng_n {n : Nat} (h : n ≤ 100000) : -(2 ^ 62) ≤ (n : Int) ∧ (n : Int) < 2 ^ 62 := by omega
def RowR (x : D) (r : List Int) : Prop := ∃ t, x = .lst t (r.map .int)
def PR (v : D) (c : Nat) (rs : List (List Int)) : Prop := ∃ t ds, v = .tup [.int (c : Int), .lst t ds] ∧ Paired RowR ds rs
structure Wf (c : Nat) (rs : List (List Int)) : Prop where
  one : 1 ≤ c
  four : c ≤ 4
  ten : rs.length ≤ 30
  at_ : ∀ (g : Nat) (r : List Int), rs[g]? = some r → r.length = g ∧ ∀ x ∈ r, 0 ≤ x ∧ x < (c : Int)
theorem all_ok {r : List Int} : D.okL (r.map D.int) = true := by
  induction r with
  | nil => rfl
  | cons a r ih => exact ih
theorem Paired.at2 {α β : Type} {F : α → β → Prop} {b : β} {l₁ : List α} {l₂ : List β} {i : Nat} (h : Paired F l₁ l₂) (e : l₂[i]? = some b) : ∃ a, l₁[i]? = some a ∧ F a b := by
  cases q : l₁[i]? with
  | none => rw [Paired.at0 h q] at e; cases e
  | some a =>
    obtain ⟨b', h1, h2⟩ := Paired.at1 h q
    rw [e] at h1
    cases h1
    exact ⟨a, rfl, h2⟩
theorem rows_ok {ds : List D} {rs : List (List Int)} (p : Paired RowR ds rs) (h : ∀ r ∈ rs, r.length ≤ 100000) : D.okL ds = true := by
  induction p with
  | nil => rfl
  | cons r _ ih =>
    rename_i a b l1 l2 _
    obtain ⟨t, rfl⟩ := r
    show (D.okD (.lst t (b.map D.int)) && D.okL l1) = true
    rw [ih fun r hr => h r (List.mem_cons_of_mem _ hr), Bool.and_true]
    show (Nat.ble (b.map D.int).length 100000 && D.okL (b.map D.int)) = true
    rw [all_ok, Bool.and_true, List.length_map]
    exact Nat.ble_eq_true_of_le (h b List.mem_cons_self)
theorem Wf.row {c : Nat} {rs : List (List Int)} (w : Wf c rs) : ∀ r ∈ rs, r.length ≤ 100000 := fun r hr => by
  obtain ⟨g, hg⟩ := List.getElem?_of_mem hr
  have := (w.at_ g r hg).1
  have := (List.getElem?_eq_some_iff.mp hg).1
  have := w.ten
  omega
theorem PR.okD {v : D} {c : Nat} {rs : List (List Int)} (p : PR v c rs) (w : Wf c rs) : v.okD = true := by
  obtain ⟨t, ds, rfl, pr⟩ := p
  show (true && (true && (D.okD (.lst t ds) && true))) = true
  rw [Bool.true_and, Bool.true_and, Bool.and_true]
  show (Nat.ble ds.length 100000 && D.okL ds) = true
  rw [rows_ok pr w.row, Bool.and_true, Paired.len pr]
  exact Nat.ble_eq_true_of_le (by have := w.ten; omega)
theorem okc_all {c : Int} : ∀ {r : List Int}, (∀ x ∈ r, 0 ≤ x ∧ x < c) → (r.map D.int).all (okc c) = true
  | [], _ => rfl
  | a :: r, h => by
    obtain ⟨h1, h2⟩ := h a List.mem_cons_self
    rw [List.map_cons, List.all_cons, okc_all fun x hx => h x (List.mem_cons_of_mem _ hx)]
    show (decide (0 ≤ a) && decide (a < c) && true) = true
    rw [decide_eq_true h1, decide_eq_true h2]
    rfl
theorem rows_of {c : Nat} : ∀ {ds : List D} {rs : List (List Int)} (k : Nat), Paired RowR ds rs → (∀ g r, rs[g]? = some r → r.length = k + g ∧ ∀ x ∈ r, 0 ≤ x ∧ x < (c : Int)) → rowsB c k ds = true
  | _, _, k, .nil, _ => rfl
  | a :: l1, b :: l2, k, .cons r t, h => by
    obtain ⟨t', rfl⟩ := r
    show (rowB c k (.lst t' (b.map D.int)) && rowsB c (k + 1) l1) = true
    obtain ⟨h1, h2⟩ := h 0 b rfl
    rw [rows_of (k + 1) t fun g r hr => ⟨by rw [(h (g + 1) r (by simpa using hr)).1]; omega, (h (g + 1) r (by simpa using hr)).2⟩, Bool.and_true]
    show (decide (((b.map D.int).length : Int) = k) && (b.map D.int).all (okc c)) = true
    rw [okc_all h2, Bool.and_true, List.length_map]
    exact decide_eq_true (by omega)
theorem PR.party {v : D} {c : Nat} {rs : List (List Int)} (p : PR v c rs) (w : Wf c rs) : partyB v = true := by
  obtain ⟨t, ds, rfl, pr⟩ := p
  show (decide (1 ≤ (c : Int)) && rowsB c 0 ds) = true
  rw [rows_of 0 pr fun g r hr => ⟨by rw [(w.at_ g r hr).1]; omega, (w.at_ g r hr).2⟩, Bool.and_true]
  exact decide_eq_true (by have := w.one; omega)
theorem check_party_ok {v : D} {c : Nat} {rs : List (List Int)} (p : PR v c rs) (w : Wf c rs) (q : Q .non) : W (d + 5) 5 [v] Q := by
  refine wclO_body (F := ⟨1, 1, b_check_party⟩) rfl rfl rfl rfl ?_
  unfold b_check_party startD
  simp only [WR, WO, WL, isBad, dvD, mapAtD, anyBT, Tgs.len, List.map_cons, List.map_nil, List.replicate, List.length_cons, List.length_nil, List.cons_append, List.nil_append, List.append_nil, Option.some.injEq, exists_eq_left', exists_eq_left, Option.map_some, Option.bind_some, wEq_int, wNe_int, wEq_bl, wNe_bl, D.bl.injEq, D.int.injEq, wipeD, and_true, true_and, Int.zero_add, Int.toNat_natCast, Bool.or_false, Bool.or_true, Bool.false_or, Bool.true_or, Bool.not_true, Bool.not_false, WRS]
  refine is_party_ok (PR.okD p w) ?_
  rw [PR.party p w]
  simp only [WR, WO, WL, isBad, dvD, mapAtD, anyBT, Tgs.len, List.map_cons, List.map_nil, List.replicate, List.length_cons, List.length_nil, List.cons_append, List.nil_append, List.append_nil, Option.some.injEq, exists_eq_left', exists_eq_left, Option.map_some, Option.bind_some, wEq_int, wNe_int, wEq_bl, wNe_bl, D.bl.injEq, D.int.injEq, wipeD, and_true, true_and, Int.zero_add, Int.toNat_natCast, Bool.or_false, Bool.or_true, Bool.false_or, Bool.true_or, Bool.not_true, Bool.not_false, WRS]
  exact q
theorem is_guest_ok {v : D} {c : Nat} {rs : List (List Int)} (p : PR v c rs) {g : Nat} (q : Q (.bl (decide (g < rs.length)))) : W (d + 3) 6 [v, .int (g : Int)] Q := by
  refine wclO_body (F := ⟨2, 2, b_is_guest⟩) rfl rfl rfl rfl ?_
  unfold b_is_guest startD
  obtain ⟨t, ds, rfl, pr⟩ := p
  have e1 : atA [D.int (c : Int), .lst t ds] 1 = some (.lst t ds) := rfl
  simp only [WR, WO, WL, isBad, dvD, mapAtD, anyBT, Tgs.len, List.map_cons, List.map_nil, List.replicate, List.length_cons, List.length_nil, List.cons_append, List.nil_append, List.append_nil, Option.some.injEq, exists_eq_left', exists_eq_left, Option.map_some, Option.bind_some, wEq_int, wNe_int, wEq_bl, wNe_bl, D.bl.injEq, D.int.injEq, wipeD, and_true, true_and, Int.zero_add, Int.toNat_natCast, Bool.or_false, Bool.or_true, Bool.false_or, Bool.true_or, Bool.not_true, Bool.not_false, WRS, e1]
  refine is_count_int ?_
  rw [show decide ((if (0 : Int) < 0 then 0 else 0) ≤ (g : Int)) = true from decide_eq_true (by rw [ite_self]; omega)]
  simp only [WR, WO, WL, isBad, dvD, mapAtD, anyBT, Tgs.len, List.map_cons, List.map_nil, List.replicate, List.length_cons, List.length_nil, List.cons_append, List.nil_append, List.append_nil, Option.some.injEq, exists_eq_left', exists_eq_left, Option.map_some, Option.bind_some, wEq_int, wNe_int, wEq_bl, wNe_bl, D.bl.injEq, D.int.injEq, wipeD, and_true, true_and, Int.zero_add, Int.toNat_natCast, Bool.or_false, Bool.or_true, Bool.false_or, Bool.true_or, Bool.not_true, Bool.not_false, WRS, Paired.len pr]
  rw [show decide ((g : Int) < (rs.length : Int)) = decide (g < rs.length) from decide_eq_decide.mpr (by omega)]
  exact q
theorem check_colour_ok {v : D} {c : Nat} {rs : List (List Int)} (p : PR v c rs) {x : Int} (h : 0 ≤ x ∧ x < (c : Int)) (q : Q .non) : W (d + 3) 7 [v, .int x] Q := by
  refine wclO_body (F := ⟨2, 2, b_check_colour⟩) rfl rfl rfl rfl ?_
  unfold b_check_colour startD
  obtain ⟨t, ds, rfl, pr⟩ := p
  have e0 : atA [D.int (c : Int), .lst t ds] 0 = some (.int (c : Int)) := rfl
  simp only [WR, WO, WL, isBad, dvD, mapAtD, anyBT, Tgs.len, List.map_cons, List.map_nil, List.replicate, List.length_cons, List.length_nil, List.cons_append, List.nil_append, List.append_nil, Option.some.injEq, exists_eq_left', exists_eq_left, Option.map_some, Option.bind_some, wEq_int, wNe_int, wEq_bl, wNe_bl, D.bl.injEq, D.int.injEq, wipeD, and_true, true_and, Int.zero_add, Int.toNat_natCast, Bool.or_false, Bool.or_true, Bool.false_or, Bool.true_or, Bool.not_true, Bool.not_false, WRS]
  refine is_count_int ?_
  rw [show decide ((if (0 : Int) < 0 then 0 else 0) ≤ x) = true from decide_eq_true (by rw [ite_self]; omega)]
  simp only [WR, WO, WL, isBad, dvD, mapAtD, anyBT, Tgs.len, List.map_cons, List.map_nil, List.replicate, List.length_cons, List.length_nil, List.cons_append, List.nil_append, List.append_nil, Option.some.injEq, exists_eq_left', exists_eq_left, Option.map_some, Option.bind_some, wEq_int, wNe_int, wEq_bl, wNe_bl, D.bl.injEq, D.int.injEq, wipeD, and_true, true_and, Int.zero_add, Int.toNat_natCast, Bool.or_false, Bool.or_true, Bool.false_or, Bool.true_or, Bool.not_true, Bool.not_false, WRS, e0]
  rw [show decide ((c : Int) ≤ x) = false from decide_eq_false (by omega)]
  exact q
/-- the colour of a pair -/
def col (rs : List (List Int)) (a b : Nat) : Int := ((rs[max a b]?).bind fun r => r[min a b]?).getD 0
theorem col_comm (rs : List (List Int)) (a b : Nat) : col rs a b = col rs b a := by
  unfold col
  rw [Nat.max_comm, Nat.min_comm]
theorem col_get {c : Nat} {rs : List (List Int)} (w : Wf c rs) {a b : Nat} (ha : a < rs.length) (hb : b < rs.length) (n : a ≠ b) : ∃ r, rs[max a b]? = some r ∧ r[min a b]? = some (col rs a b) := by
  have hm : max a b < rs.length := by omega
  have e := List.getElem?_eq_getElem hm
  have l := (w.at_ _ _ e).1
  have hl : min a b < (rs[max a b]).length := by rw [l]; omega
  refine ⟨_, e, ?_⟩
  unfold col
  rw [e, Option.bind_some, List.getElem?_eq_getElem hl]
  rfl
theorem col_rng {c : Nat} {rs : List (List Int)} (w : Wf c rs) {a b : Nat} (ha : a < rs.length) (hb : b < rs.length) (n : a ≠ b) : 0 ≤ col rs a b ∧ col rs a b < (c : Int) := by
  obtain ⟨r, h1, h2⟩ := col_get w ha hb n
  exact (w.at_ _ _ h1).2 _ (List.mem_of_getElem? h2)
theorem colour_sub {v : D} {c : Nat} {rs : List (List Int)} (p : PR v c rs) (w : Wf c rs) {a b : Nat} (ha : a < rs.length) (hb : b < rs.length) (n : a ≠ b) (q : Q (.int (col rs a b))) (wc : WCl) :
    wpSs wc b_colour_there [some v, some (.int (a : Int)), some (.int (b : Int))] { nx := fun _ => Q .non, rt := Q } := by
  unfold b_colour_there
  obtain ⟨t, ds, rfl, pr⟩ := p
  have e1 : atA [D.int (c : Int), .lst t ds] 1 = some (.lst t ds) := rfl
  obtain ⟨r, h1, h2⟩ := col_get w ha hb n
  obtain ⟨x, h3, t', rfl⟩ := Paired.at2 pr h1
  have em : (if (a : Int) < (b : Int) then (b : Int) else (a : Int)) = ((max a b : Nat) : Int) := by split <;> omega
  have en : (if (b : Int) < (a : Int) then (b : Int) else (a : Int)) = ((min a b : Nat) : Int) := by split <;> omega
  simp only [WR, WO, WL, isBad, dvD, mapAtD, anyBT, Tgs.len, List.map_cons, List.map_nil, List.replicate, List.length_cons, List.length_nil, List.cons_append, List.nil_append, List.append_nil, Option.some.injEq, exists_eq_left', exists_eq_left, Option.map_some, Option.bind_some, wEq_int, wNe_int, wEq_bl, wNe_bl, D.bl.injEq, D.int.injEq, wipeD, and_true, true_and, Int.zero_add, Int.toNat_natCast, Bool.or_false, Bool.or_true, Bool.false_or, Bool.true_or, Bool.not_true, Bool.not_false, WRS, e1, em, en, atA_nat, h3, List.getElem?_map, h2]
  exact q
theorem colour_there_ok {v : D} {c : Nat} {rs : List (List Int)} (p : PR v c rs) (w : Wf c rs) {a b : Nat} (ha : a < rs.length) (hb : b < rs.length) (n : a ≠ b) (q : Q (.int (col rs a b))) : W (d + 1) 8 [v, .int (a : Int), .int (b : Int)] Q :=
  wclO_body (F := ⟨3, 3, b_colour_there⟩) rfl rfl rfl rfl (colour_sub p w ha hb n q _)
theorem law_colour_ok {v : D} {c : Nat} {rs : List (List Int)} (p : PR v c rs) (w : Wf c rs) {a b : Nat} (ha : a < rs.length) (hb : b < rs.length) (n : a ≠ b) (q : Q (.int (col rs a b))) : W (d + 1) 29 [v, .int (a : Int), .int (b : Int)] Q :=
  wclO_body (F := ⟨3, 3, b__law_colour⟩) rfl rfl rfl rfl (colour_sub p w ha hb n q _)
def partn (rs : List (List Int)) (g : Nat) (x : Int) : List Int := ((List.range rs.length).filter fun l : Nat => decide (l ≠ g) && decide (col rs g l = x)).map fun l : Nat => (l : Int)
theorem small10 {c : Nat} {rs : List (List Int)} (w : Wf c rs) : rs.length ≤ 100000 := by have := w.ten; omega
/-- [late for late in range(many) if late != g and colour(g, late) == x] -/
theorem partn_lc {as : D → (PEnv → Prop) → Prop} {tt : PEnv → (Bool → Prop) → Prop} {el : PEnv → (D → Prop) → Prop} {rs : List (List Int)} {g : Nat} {x : Int} (hl : rs.length ≤ 100000)
    (h : ∀ l : Nat, l < rs.length → ∀ (K : D → Prop) (F : Prop), (if (decide (l ≠ g) && decide (col rs g l = x)) = true then K (.int (l : Int)) else F) → as (.int (l : Int)) fun δ => tt δ fun b => match b with
      | true => el δ K
      | false => F) (q : Q (.lst true ((partn rs g x).map .int))) : wLc as tt el ((List.range rs.length).map fun i : Nat => D.int (i : Int)) [] Q := by
  refine lc_filt (fun y => match y with | .int i => decide (i.toNat ≠ g) && decide (col rs g i.toNat = x) | _ => false) id _ [] (fun y hy K F k => ?_) (by simpa using small_line hl) ?_
  · obtain ⟨l, hl, rfl⟩ := List.mem_map.mp hy
    exact h l (List.mem_range.mp hl) K F k
  · rw [List.reverse_nil, List.nil_append, List.map_id]
    have e : ∀ l : List Nat, (l.map fun i : Nat => D.int (i : Int)).filter (fun y => match y with | .int i => decide (i.toNat ≠ g) && decide (col rs g i.toNat = x) | _ => false) = ((l.filter fun l => decide (l ≠ g) && decide (col rs g l = x)).map fun l : Nat => (l : Int)).map D.int := fun l => by
      rw [List.filter_map, List.map_map]
      rfl
    rw [e]
    exact q
end K03
end MP
namespace MP
open PySem
namespace K03
open MP.D
variable {d : Nat} {Q : D → Prop}
def mkR (rs : List (List Int)) : D := .lst true (rs.map fun r => .lst true (r.map .int))
def mkP (c : Nat) (rs : List (List Int)) : D := .tup [.int (c : Int), mkR rs]
def cpy : D → D
  | .lst _ xs => .lst true xs
  | x => x
theorem cpy_rows {ds : List D} {rs : List (List Int)} (p : Paired RowR ds rs) : ds.map cpy = rs.map fun r => .lst true (r.map .int) := by
  induction p with
  | nil => rfl
  | cons r _ ih =>
    obtain ⟨t, rfl⟩ := r
    rw [List.map_cons, ih]
    rfl
theorem flat_ints (r : List Int) : D.allFlat (r.map D.int) = true := by
  induction r with
  | nil => rfl
  | cons a r ih => exact ih
theorem rep_ints (x : Int) (k : Nat) : repA [D.int x] k = (List.replicate k x).map D.int := by rw [repA_one, List.map_replicate]
end K03
end MP
namespace MP
open PySem
namespace K03
open MP.D
variable {d : Nat} {Q : D → Prop}
theorem draw_ok {p m : Nat} (h : 1 ≤ m ∧ m < 1073741824) (q : ∀ k : Nat, k < m → Q (.int (k : Int))) : W d 21 [.pur p, .int (m : Int)] Q := by
  refine wclO_spec (w := wDraw) rfl ⟨p, m, rfl, by omega, by omega, fun k h1 h2 => ?_⟩ d
  obtain ⟨n, rfl⟩ : ∃ n : Nat, k = (n : Int) := ⟨k.toNat, by omega⟩
  exact q n (by omega)
theorem draw_int {p : Nat} {m : Int} (h : 1 ≤ m ∧ m < 1073741824) (q : ∀ k : Nat, (k : Int) < m → Q (.int (k : Int))) : W d 21 [.pur p, .int m] Q := by
  refine wclO_spec (w := wDraw) rfl ⟨p, m, rfl, by omega, by omega, fun k h1 h2 => ?_⟩ d
  obtain ⟨n, rfl⟩ : ∃ n : Nat, k = (n : Int) := ⟨k.toNat, by omega⟩
  exact q n (by omega)
theorem perm_ins {α : Type} (l : List α) (k : Nat) (a : α) : List.Perm (l.take k ++ [a] ++ l.drop k) (l ++ [a]) := by
  have h1 : List.Perm (l.take k ++ [a] ++ l.drop k) (l.take k ++ (l.drop k ++ [a])) := by
    rw [List.append_assoc]
    exact List.Perm.append_left _ List.perm_append_comm
  rw [← List.append_assoc, List.take_append_drop] at h1
  exact h1
theorem shuffled_ok {p : Nat} {t : Bool} {xs : List D} (hl : xs.length ≤ 100000) (q : ∀ ys : List D, List.Perm ys xs → Q (.lst true ys)) : W (d + 1) 23 [.pur p, .lst t xs] Q := by
  refine wclO_own (om := ([2], [])) (F := ⟨2, 4, b__law_shuffled⟩) rfl rfl rfl rfl ?_
  unfold b__law_shuffled startD
  rw [wo_step]
  simp only [WR, WO, WL, isBad, dvD, mapAtD, anyBT, Tgs.len, List.map_cons, List.map_nil, List.replicate, List.length_cons, List.length_nil, List.cons_append, List.nil_append, List.append_nil, Option.some.injEq, exists_eq_left', exists_eq_left, Option.map_some, Option.bind_some, wEq_int, wNe_int, wEq_bl, wNe_bl, D.bl.injEq, D.int.injEq, wipeD, and_true, true_and, Int.zero_add, Int.toNat_natCast, Bool.or_false, Bool.or_true, Bool.false_or, Bool.true_or, Bool.not_true, Bool.not_false, WRS, woS, woX, woAsg, woE, wO0, wO1, woG, woGs, woPop, wOwn, wOwnD, woT, keepE, keepT, keepI, dropO, hasE, hasA, hasT, hasI, freshE, freshA, deepE, isRng, List.filter_cons, List.filter_nil, List.contains_cons, List.contains_nil, nat_beq, Bool.and_true, Bool.true_and, Bool.and_false, Bool.false_and, Bool.false_eq_true, if_true, if_false, reduceIte, Nat.reduceBEq, Nat.reduceLT, Nat.reduceAdd, reduceCtorEq, Bool.not_eq_true]
  refine ⟨Nat.zero_le _, ?_⟩
  simp only [keepD, D.noL, D.noLs, if_true, if_false, reduceIte, Bool.true_and, Bool.false_and, Bool.false_eq_true]
  rw [wo_step]
  simp only [WR, WO, WL, isBad, dvD, mapAtD, anyBT, Tgs.len, List.map_cons, List.map_nil, List.replicate, List.length_cons, List.length_nil, List.cons_append, List.nil_append, List.append_nil, Option.some.injEq, exists_eq_left', exists_eq_left, Option.map_some, Option.bind_some, wEq_int, wNe_int, wEq_bl, wNe_bl, D.bl.injEq, D.int.injEq, wipeD, and_true, true_and, Int.zero_add, Int.toNat_natCast, Bool.or_false, Bool.or_true, Bool.false_or, Bool.true_or, Bool.not_true, Bool.not_false, WRS, woS, woX, woAsg, woE, wO0, wO1, woG, woGs, woPop, wOwn, wOwnD, woT, keepE, keepT, keepI, dropO, hasE, hasA, hasT, hasI, freshE, freshA, deepE, isRng, List.filter_cons, List.filter_nil, List.contains_cons, List.contains_nil, nat_beq, Bool.and_true, Bool.true_and, Bool.and_false, Bool.false_and, Bool.false_eq_true, if_true, if_false, reduceIte, Nat.reduceBEq, Nat.reduceLT, Nat.reduceAdd, reduceCtorEq, Bool.not_eq_true, D.lst.injEq]
  refine ⟨small_LF hl, ?_⟩
  refine ofor_inv (fun i δ ow => ow = [2] ∧ ∃ ys r3, List.Perm ys (xs.take i) ∧ δ = [some (.pur p), some (.lst t xs), some (.lst true ys), r3]) xs ?_ ?_ xs 0 _ _ (fun j => by rw [Nat.zero_add]) (by omega) ⟨rfl, [], _, List.Perm.refl _, rfl⟩
  · rintro i x δ ow hx ⟨rfl, ys, r3, hp, rfl⟩ K hK
    have hi : i < xs.length := (List.getElem?_eq_some_iff.mp hx).1
    have hy : ys.length ≤ xs.length := by rw [hp.length_eq, List.length_take]; omega
    simp only [WR, WO, WL, isBad, dvD, mapAtD, anyBT, Tgs.len, List.map_cons, List.map_nil, List.replicate, List.length_cons, List.length_nil, List.cons_append, List.nil_append, List.append_nil, Option.some.injEq, exists_eq_left', exists_eq_left, Option.map_some, Option.bind_some, wEq_int, wNe_int, wEq_bl, wNe_bl, D.bl.injEq, D.int.injEq, wipeD, and_true, true_and, Int.zero_add, Int.toNat_natCast, Bool.or_false, Bool.or_true, Bool.false_or, Bool.true_or, Bool.not_true, Bool.not_false, WRS, woS, woX, woAsg, woE, wO0, wO1, woG, woGs, woPop, wOwn, wOwnD, woT, keepE, keepT, keepI, dropO, hasE, hasA, hasT, hasI, freshE, freshA, deepE, isRng, List.filter_cons, List.filter_nil, List.contains_cons, List.contains_nil, nat_beq, Bool.and_true, Bool.true_and, Bool.and_false, Bool.false_and, Bool.false_eq_true, if_true, if_false, reduceIte, Nat.reduceBEq, Nat.reduceLT, Nat.reduceAdd, reduceCtorEq, Bool.not_eq_true]
    rw [wo_step]
    simp only [WR, WO, WL, isBad, dvD, mapAtD, anyBT, Tgs.len, List.map_cons, List.map_nil, List.replicate, List.length_cons, List.length_nil, List.cons_append, List.nil_append, List.append_nil, Option.some.injEq, exists_eq_left', exists_eq_left, Option.map_some, Option.bind_some, wEq_int, wNe_int, wEq_bl, wNe_bl, D.bl.injEq, D.int.injEq, wipeD, and_true, true_and, Int.zero_add, Int.toNat_natCast, Bool.or_false, Bool.or_true, Bool.false_or, Bool.true_or, Bool.not_true, Bool.not_false, WRS, woS, woX, woAsg, woE, wO0, wO1, woG, woGs, woPop, wOwn, wOwnD, woT, keepE, keepT, keepI, dropO, hasE, hasA, hasT, hasI, freshE, freshA, deepE, isRng, List.filter_cons, List.filter_nil, List.contains_cons, List.contains_nil, nat_beq, Bool.and_true, Bool.true_and, Bool.and_false, Bool.false_and, Bool.false_eq_true, if_true, if_false, reduceIte, Nat.reduceBEq, Nat.reduceLT, Nat.reduceAdd, reduceCtorEq, Bool.not_eq_true]
    rw [show ((ys.length : Int) + 1) = ((ys.length + 1 : Nat) : Int) by omega]
    refine draw_ok ⟨by omega, by omega⟩ fun k hk => ?_
    simp only [keepD, D.noL, D.noLs, if_true, if_false, reduceIte, Bool.true_and, Bool.false_and, Bool.false_eq_true]
    simp only [WR, WO, WL, isBad, dvD, mapAtD, anyBT, Tgs.len, List.map_cons, List.map_nil, List.replicate, List.length_cons, List.length_nil, List.cons_append, List.nil_append, List.append_nil, Option.some.injEq, exists_eq_left', exists_eq_left, Option.map_some, Option.bind_some, wEq_int, wNe_int, wEq_bl, wNe_bl, D.bl.injEq, D.int.injEq, wipeD, and_true, true_and, Int.zero_add, Int.toNat_natCast, Bool.or_false, Bool.or_true, Bool.false_or, Bool.true_or, Bool.not_true, Bool.not_false, WRS, woS, woX, woAsg, woE, wO0, wO1, woG, woGs, woPop, wOwn, wOwnD, woT, keepE, keepT, keepI, dropO, hasE, hasA, hasT, hasI, freshE, freshA, deepE, isRng, List.filter_cons, List.filter_nil, List.contains_cons, List.contains_nil, nat_beq, Bool.and_true, Bool.true_and, Bool.and_false, Bool.false_and, Bool.false_eq_true, if_true, if_false, reduceIte, Nat.reduceBEq, Nat.reduceLT, Nat.reduceAdd, reduceCtorEq, Bool.not_eq_true]
    refine ⟨?_, ?_⟩
    · split <;> simp
    · refine ⟨true, ys, (k : Int), rfl, rfl, ⟨by omega, by omega⟩, Nat.lt_of_le_of_lt (by omega : ys.length ≤ 100000) (Nat.lt_of_lt_of_le (by decide : 100000 < 100001) (Nat.le_of_ble_eq_true rfl)), ?_⟩
      rw [wo_nil]
      rw [ite_self]
      refine hK _ _ ⟨rfl, _, _, ?_, rfl⟩
      rw [Int.toNat_natCast]
      have : xs.take (i + 1) = xs.take i ++ [x] := by
        rw [List.take_succ_eq_append_getElem hi]
        congr 2
        exact (List.getElem?_eq_some_iff.mp hx).2
      rw [this]
      exact (perm_ins ys k x).trans (hp.append_right _)
  · rintro δ ow ⟨rfl, ys, r3, hp, rfl⟩
    rw [List.take_length] at hp
    dsimp only
    rw [wo_step]
    simp only [WR, WO, WL, isBad, dvD, mapAtD, anyBT, Tgs.len, List.map_cons, List.map_nil, List.replicate, List.length_cons, List.length_nil, List.cons_append, List.nil_append, List.append_nil, Option.some.injEq, exists_eq_left', exists_eq_left, Option.map_some, Option.bind_some, wEq_int, wNe_int, wEq_bl, wNe_bl, D.bl.injEq, D.int.injEq, wipeD, and_true, true_and, Int.zero_add, Int.toNat_natCast, Bool.or_false, Bool.or_true, Bool.false_or, Bool.true_or, Bool.not_true, Bool.not_false, WRS, woS, woX, woAsg, woE, wO0, wO1, woG, woGs, woPop, wOwn, wOwnD, woT, keepE, keepT, keepI, dropO, hasE, hasA, hasT, hasI, freshE, freshA, deepE, isRng, List.filter_cons, List.filter_nil, List.contains_cons, List.contains_nil, nat_beq, Bool.and_true, Bool.true_and, Bool.and_false, Bool.false_and, Bool.false_eq_true, if_true, if_false, reduceIte, Nat.reduceBEq, Nat.reduceLT, Nat.reduceAdd, reduceCtorEq, Bool.not_eq_true]
    exact q ys hp
theorem re_len : ∀ {xs ys : List D}, D.reL xs = D.reL ys → xs.length = ys.length
  | [], [], _ => rfl
  | [], _ :: _, h => by cases h
  | _ :: _, [], h => by cases h
  | x :: xs, y :: ys, h => by
    have h : x.re :: D.reL xs = y.re :: D.reL ys := h
    rw [List.length_cons, List.length_cons, re_len (List.cons.inj h).2]
theorem zip_all {xs ys : List D} (h : D.reL xs = D.reL ys) : (zipD xs ys).length = xs.length ∧ ∀ z ∈ zipD xs ys, ∃ x y, z = .tup [x, y] ∧ x ∈ xs ∧ y ∈ ys ∧ x.re = y.re := by
  induction xs generalizing ys with
  | nil => exact ⟨rfl, fun z hz => (List.not_mem_nil hz).elim⟩
  | cons x xs ih =>
    cases ys with
    | nil => cases h
    | cons y ys =>
      have h : x.re :: D.reL xs = y.re :: D.reL ys := h
      obtain ⟨h1, h2⟩ := List.cons.inj h
      obtain ⟨i1, i2⟩ := ih h2
      refine ⟨by unfold zipD; rw [List.length_cons, i1, List.length_cons], fun z hz => ?_⟩
      unfold zipD at hz
      rcases List.mem_cons.mp hz with e | hz
      · exact ⟨x, y, e, List.mem_cons_self, List.mem_cons_self, h1⟩
      · obtain ⟨a, b, h3, h4, h5, h6⟩ := i2 z hz
        exact ⟨a, b, h3, List.mem_cons_of_mem _ h4, List.mem_cons_of_mem _ h5, h6⟩
mutual
def dp : D → Nat
  | .lst _ xs => dpL xs + 1
  | .tup xs => dpL xs + 1
  | _ => 0
def dpL : List D → Nat
  | [] => 0
  | d :: ds => max (dp d) (dpL ds)
end
theorem dpL_mem : ∀ {xs : List D} {x : D}, x ∈ xs → dp x ≤ dpL xs
  | y :: ys, x, h => by
    show dp x ≤ max (dp y) (dpL ys)
    rcases List.mem_cons.mp h with e | h
    · subst e; omega
    · have := dpL_mem h; omega
theorem no_dct : ∀ {x : D}, x.okD = true → True := fun _ => trivial
mutual
def noD : D → Bool
  | .lst _ xs => noDL xs
  | .tup xs => noDL xs
  | .dct => false
  | .pur _ => false
  | _ => true
def noDL : List D → Bool
  | [] => true
  | d :: ds => noD d && noDL ds
end
theorem noDL_mem : ∀ {xs : List D} {x : D}, noDL xs = true → x ∈ xs → noD x = true
  | y :: ys, x, h, hm => by
    obtain ⟨h1, h2⟩ := and2 h
    rcases List.mem_cons.mp hm with e | hm
    · subst e; exact h1
    · exact noDL_mem h2 hm
theorem band_true (n : Nat) : band (List.replicate n true) = true := by
  induction n with
  | zero => rfl
  | succ n ih => exact ih
theorem all_true {xs : List D} (f : D → D) (h : ∀ x ∈ xs, f x = .bl true) : D.bls (xs.map f) = some (List.replicate xs.length true) := by
  induction xs with
  | nil => rfl
  | cons x xs ih =>
    rw [List.map_cons, h x List.mem_cons_self]
    show (D.bls (xs.map f)).map (true :: ·) = _
    rw [ih fun y hy => h y (List.mem_cons_of_mem _ hy)]
    rfl
theorem same_flat {x y : D} {Q : D → Prop} (hf : x.flat = true) (hr : x.re = y.re) (ho : x.okD = true) (q : Q (.bl true)) : W (d + 1) 24 [x, y] Q := by
  refine wclO_body (F := ⟨2, 6, b__law_same⟩) rfl rfl rfl rfl ?_
  unfold b__law_same startD
  cases x with
  | lst t xs => cases hf
  | tup xs => cases hf
  | dct => cases hf
  | pur n => cases hf
  | non =>
    cases y <;> cases hr
    simp only [WR, WO, WL, isBad, dvD, mapAtD, anyBT, Tgs.len, List.map_cons, List.map_nil, List.replicate, List.length_cons, List.length_nil, List.cons_append, List.nil_append, List.append_nil, Option.some.injEq, exists_eq_left', exists_eq_left, Option.map_some, Option.bind_some, wEq_int, wNe_int, wEq_bl, wNe_bl, D.bl.injEq, D.int.injEq, wipeD, and_true, true_and, Int.zero_add, Int.toNat_natCast, Bool.or_false, Bool.or_true, Bool.false_or, Bool.true_or, Bool.not_true, Bool.not_false, WRS]
    have e : wCmp .is_ D.non D.non = fun Q : D → Prop => Q (.bl true) := rfl
    simp only [WR, WO, WL, isBad, dvD, mapAtD, anyBT, Tgs.len, List.map_cons, List.map_nil, List.replicate, List.length_cons, List.length_nil, List.cons_append, List.nil_append, List.append_nil, Option.some.injEq, exists_eq_left', exists_eq_left, Option.map_some, Option.bind_some, wEq_int, wNe_int, wEq_bl, wNe_bl, D.bl.injEq, D.int.injEq, wipeD, and_true, true_and, Int.zero_add, Int.toNat_natCast, Bool.or_false, Bool.or_true, Bool.false_or, Bool.true_or, Bool.not_true, Bool.not_false, WRS, e]
    exact ⟨_, _, rfl, rfl, rfl, rfl, q⟩
  | bl b =>
    cases y <;> cases hr
    have e : wCmp .is_ (D.bl b) D.non = fun Q : D → Prop => Q (.bl false) := rfl
    simp only [WR, WO, WL, isBad, dvD, mapAtD, anyBT, Tgs.len, List.map_cons, List.map_nil, List.replicate, List.length_cons, List.length_nil, List.cons_append, List.nil_append, List.append_nil, Option.some.injEq, exists_eq_left', exists_eq_left, Option.map_some, Option.bind_some, wEq_int, wNe_int, wEq_bl, wNe_bl, D.bl.injEq, D.int.injEq, wipeD, and_true, true_and, Int.zero_add, Int.toNat_natCast, Bool.or_false, Bool.or_true, Bool.false_or, Bool.true_or, Bool.not_true, Bool.not_false, WRS, e]
    simpa using q
  | int i =>
    cases y <;> cases hr
    have e : wCmp .is_ (D.int i) D.non = fun Q : D → Prop => Q (.bl false) := rfl
    simp only [WR, WO, WL, isBad, dvD, mapAtD, anyBT, Tgs.len, List.map_cons, List.map_nil, List.replicate, List.length_cons, List.length_nil, List.cons_append, List.nil_append, List.append_nil, Option.some.injEq, exists_eq_left', exists_eq_left, Option.map_some, Option.bind_some, wEq_int, wNe_int, wEq_bl, wNe_bl, D.bl.injEq, D.int.injEq, wipeD, and_true, true_and, Int.zero_add, Int.toNat_natCast, Bool.or_false, Bool.or_true, Bool.false_or, Bool.true_or, Bool.not_true, Bool.not_false, WRS, e]
    simpa using q
  | str s =>
    cases y <;> cases hr
    have e : wCmp .is_ (D.str s) D.non = fun Q : D → Prop => Q (.bl false) := rfl
    simp only [WR, WO, WL, isBad, dvD, mapAtD, anyBT, Tgs.len, List.map_cons, List.map_nil, List.replicate, List.length_cons, List.length_nil, List.cons_append, List.nil_append, List.append_nil, Option.some.injEq, exists_eq_left', exists_eq_left, Option.map_some, Option.bind_some, wEq_int, wNe_int, wEq_bl, wNe_bl, D.bl.injEq, D.int.injEq, wipeD, and_true, true_and, Int.zero_add, Int.toNat_natCast, Bool.or_false, Bool.or_true, Bool.false_or, Bool.true_or, Bool.not_true, Bool.not_false, WRS, e]
    obtain ⟨h1, h2⟩ := and2 ho
    have c1 : canon (.str s) = true := by
      show (PyData.strOk s && decide _) = true
      rw [h1, Bool.true_and]
      exact decide_eq_true (by show PyData.depth (.str s) ≤ 64; simp [PyData.depth])
    refine ⟨_, _, rfl, rfl, c1, c1, ?_⟩
    have : PyData.eqv (.str s) (.str s) = true := by show (s == s) = true; simp
    rw [this]
    exact q
theorem same_list {wc : WCl} {a b : List D} {Q : D → Prop} {u1 u2 u3 : Option D} (hl : a.length ≤ 100000) (he : D.reL a = D.reL b) (h : ∀ x y, x ∈ a → y ∈ b → x.re = y.re → ∀ K : D → Prop, K (.bl true) → wc 24 [x, y] K) (q : Q (.bl true)) :
    (zipD a b).length < LF ∧ wLc (fun x K => ∃ xs_1, x.seq = some xs_1 ∧ xs_1.length = 0 + 1 + 1 ∧ wpGs wc (Tgs.cons (Tg.name 4) (Tgs.cons (Tg.name 5) Tgs.nil)) xs_1 [u1, u2, u3, none, none, none] K) (fun δ' K => K true)
      (fun δ' K => ∃ d_1, δ'[4]? = some (some d_1) ∧ ∃ d_2, δ'[5]? = some (some d_2) ∧ wc 24 [d_1, d_2] K) (zipD a b) [] fun x => ∃ bs, x.lsq.bind D.bls = some bs ∧ Q (.bl (band bs)) := by
  obtain ⟨z1, z2⟩ := zip_all he
  refine ⟨by rw [z1]; exact small_LF hl, lc_det (fun _ => .bl true) _ (fun z hz K F k => ?_) (by rw [z1]; exact small_line hl) ?_⟩
  · obtain ⟨x, y, rfl, h1, h2, h3⟩ := z2 z hz
    simp only [WR, WO, WL, isBad, dvD, mapAtD, anyBT, Tgs.len, List.map_cons, List.map_nil, List.replicate, List.length_cons, List.length_nil, List.cons_append, List.nil_append, List.append_nil, Option.some.injEq, exists_eq_left', exists_eq_left, Option.map_some, Option.bind_some, wEq_int, wNe_int, wEq_bl, wNe_bl, D.bl.injEq, D.int.injEq, wipeD, and_true, true_and, Int.zero_add, Int.toNat_natCast, Bool.or_false, Bool.or_true, Bool.false_or, Bool.true_or, Bool.not_true, Bool.not_false, WRS]
    exact h x y h1 h2 h3 K k
  · simp only [WR, WO, WL, isBad, dvD, mapAtD, anyBT, Tgs.len, List.map_cons, List.map_nil, List.replicate, List.length_cons, List.length_nil, List.cons_append, List.nil_append, List.append_nil, Option.some.injEq, exists_eq_left', exists_eq_left, Option.map_some, Option.bind_some, wEq_int, wNe_int, wEq_bl, wNe_bl, D.bl.injEq, D.int.injEq, wipeD, and_true, true_and, Int.zero_add, Int.toNat_natCast, Bool.or_false, Bool.or_true, Bool.false_or, Bool.true_or, Bool.not_true, Bool.not_false, WRS, all_true (fun _ => D.bl true) fun _ _ => rfl, band_true]
    exact q
theorem same_ok : ∀ (k : Nat) {x y : D} {Q : D → Prop}, dp x ≤ k → x.re = y.re → x.okD = true → noD x = true → Q (.bl true) → W (d + k + 1) 24 [x, y] Q := by
  intro k
  induction k with
  | zero =>
    intro x y Q hk hr ho hn q
    refine same_flat ?_ hr ho q
    cases x <;> first | rfl | (cases hk; done) | (cases hn; done)
  | succ k ih =>
    intro x y Q hk hr ho hn q
    cases x with
    | lst t xs =>
      cases y with
      | lst u ys =>
        have he : D.reL xs = D.reL ys := (D.lst.inj hr).2
        obtain ⟨h1, h2⟩ := and2 ho
        have h1 := Nat.le_of_ble_eq_true h1
        refine wclO_body (F := ⟨2, 6, b__law_same⟩) rfl rfl rfl rfl ?_
        unfold b__law_same startD
        have hk : dpL xs + 1 ≤ k + 1 := hk
        simp only [WR, WO, WL, isBad, dvD, mapAtD, anyBT, Tgs.len, List.map_cons, List.map_nil, List.replicate, List.length_cons, List.length_nil, List.cons_append, List.nil_append, List.append_nil, Option.some.injEq, exists_eq_left', exists_eq_left, Option.map_some, Option.bind_some, wEq_int, wNe_int, wEq_bl, wNe_bl, D.bl.injEq, D.int.injEq, wipeD, and_true, true_and, Int.zero_add, Int.toNat_natCast, Bool.or_false, Bool.or_true, Bool.false_or, Bool.true_or, Bool.not_true, Bool.not_false, WRS]
        simp only [WR, WO, WL, isBad, dvD, mapAtD, anyBT, Tgs.len, List.map_cons, List.map_nil, List.replicate, List.length_cons, List.length_nil, List.cons_append, List.nil_append, List.append_nil, Option.some.injEq, exists_eq_left', exists_eq_left, Option.map_some, Option.bind_some, wEq_int, wNe_int, wEq_bl, wNe_bl, D.bl.injEq, D.int.injEq, wipeD, and_true, true_and, Int.zero_add, Int.toNat_natCast, Bool.or_false, Bool.or_true, Bool.false_or, Bool.true_or, Bool.not_true, Bool.not_false, WRS, BEq.rfl, re_len he, decide_true]
        exact same_list h1 he (fun x y hx hy hxy K k => ih (by have := dpL_mem hx; omega) hxy (D.okL_mem h2 hx) (noDL_mem hn hx) k) q
      | _ => cases hr
    | tup xs =>
      cases y with
      | tup ys =>
        have he : D.reL xs = D.reL ys := D.tup.inj hr
        obtain ⟨h1, h2⟩ := and2 ho
        have h1 := Nat.le_of_ble_eq_true h1
        refine wclO_body (F := ⟨2, 6, b__law_same⟩) rfl rfl rfl rfl ?_
        unfold b__law_same startD
        have hk : dpL xs + 1 ≤ k + 1 := hk
        simp only [WR, WO, WL, isBad, dvD, mapAtD, anyBT, Tgs.len, List.map_cons, List.map_nil, List.replicate, List.length_cons, List.length_nil, List.cons_append, List.nil_append, List.append_nil, Option.some.injEq, exists_eq_left', exists_eq_left, Option.map_some, Option.bind_some, wEq_int, wNe_int, wEq_bl, wNe_bl, D.bl.injEq, D.int.injEq, wipeD, and_true, true_and, Int.zero_add, Int.toNat_natCast, Bool.or_false, Bool.or_true, Bool.false_or, Bool.true_or, Bool.not_true, Bool.not_false, WRS]
        simp only [WR, WO, WL, isBad, dvD, mapAtD, anyBT, Tgs.len, List.map_cons, List.map_nil, List.replicate, List.length_cons, List.length_nil, List.cons_append, List.nil_append, List.append_nil, Option.some.injEq, exists_eq_left', exists_eq_left, Option.map_some, Option.bind_some, wEq_int, wNe_int, wEq_bl, wNe_bl, D.bl.injEq, D.int.injEq, wipeD, and_true, true_and, Int.zero_add, Int.toNat_natCast, Bool.or_false, Bool.or_true, Bool.false_or, Bool.true_or, Bool.not_true, Bool.not_false, WRS, BEq.rfl, re_len he, decide_true]
        exact same_list h1 he (fun x y hx hy hxy K k => ih (by have := dpL_mem hx; omega) hxy (D.okL_mem h2 hx) (noDL_mem hn hx) k) q
      | _ => cases hr
    | dct => cases hn
    | pur n => cases hn
    | _ => exact same_flat rfl hr ho q
end K03
end MP
namespace MP
open PySem
namespace K03
open MP.D
variable {d : Nat} {Q : D → Prop}
theorem wp_nil {wc : WCl} {δ : PEnv} {E : PEnds} : wpSs wc .nil δ E = E.nx δ := rfl
theorem ints_of {P : Int → Prop} : ∀ {ys : List D}, (∀ (i : Nat) (y : D), ys[i]? = some y → ∃ x, y = .int x ∧ P x) → ∃ r : List Int, ys = r.map D.int ∧ ∀ x ∈ r, P x
  | [], _ => ⟨[], rfl, fun _ h => (List.not_mem_nil h).elim⟩
  | y :: ys, h => by
    obtain ⟨x, rfl, hx⟩ := h 0 y rfl
    obtain ⟨r, rfl, hr⟩ := ints_of (ys := ys) fun i z hz => h (i + 1) z (by simpa using hz)
    refine ⟨x :: r, rfl, fun z hz => ?_⟩
    rcases List.mem_cons.mp hz with e | hz
    · subst e; exact hx
    · exact hr z hz
def good (c : Nat) (i : Nat) (y : D) : Prop := ∃ r : List Int, y = .lst true (r.map .int) ∧ r.length = i ∧ ∀ x ∈ r, 0 ≤ x ∧ x < (c : Int)
theorem rows_good {c : Nat} : ∀ {ys : List D} (k : Nat), (∀ (i : Nat) (y : D), ys[i]? = some y → good c (k + i) y) → ∃ rs : List (List Int), Paired RowR ys rs ∧ rs.length = ys.length ∧ ∀ (g : Nat) (r : List Int), rs[g]? = some r → r.length = k + g ∧ ∀ x ∈ r, 0 ≤ x ∧ x < (c : Int)
  | [], k, _ => ⟨[], .nil, rfl, fun g r h => by cases h⟩
  | y :: ys, k, h => by
    obtain ⟨r, rfl, h1, h2⟩ := h 0 y rfl
    obtain ⟨rs, p, hl, hr⟩ := rows_good (ys := ys) (k + 1) fun i z hz => by
      have := h (i + 1) z (by simpa using hz)
      rw [show k + (i + 1) = k + 1 + i by omega] at this
      exact this
    refine ⟨r :: rs, .cons ⟨true, rfl⟩ p, by rw [List.length_cons, hl, List.length_cons], fun g s hg => ?_⟩
    cases g with
    | zero => cases hg; exact ⟨h1, h2⟩
    | succ g =>
      have := hr g s (by simpa using hg)
      rw [show k + (g + 1) = k + 1 + g by omega]
      exact this
theorem good_wf {c m : Nat} {ys : List D} (hc : 1 ≤ c ∧ c ≤ 4) (hm : m ≤ 9) (hl : ys.length = m) (h : ∀ (i : Nat) (y : D), ys[i]? = some y → good c i y) : ∃ rs, PR (.tup [.int (c : Int), .lst true ys]) c rs ∧ Wf c rs ∧ rs.length = m := by
  obtain ⟨rs, p, h1, h2⟩ := rows_good (c := c) (ys := ys) 0 fun i y hy => by rw [Nat.zero_add]; exact h i y hy
  exact ⟨rs, ⟨true, ys, rfl, p⟩, ⟨hc.1, hc.2, by omega, fun g r hg => by have := h2 g r hg; rw [Nat.zero_add] at this; exact this⟩, by omega⟩
theorem party_ok {p m c : Nat} (hm : m ≤ 9) (hc : 1 ≤ c ∧ c ≤ 4) (q : ∀ v rs, PR v c rs → Wf c rs → rs.length = m → Q v) : W (d + 1) 28 [.pur p, .int (m : Int), .int (c : Int)] Q := by
  refine wclO_body (F := ⟨3, 9, b__law_party⟩) rfl rfl rfl rfl ?_
  unfold b__law_party startD
  rw [wp_step]
  simp only [WR, WO, WL, isBad, dvD, mapAtD, anyBT, Tgs.len, List.map_cons, List.map_nil, List.replicate, List.length_cons, List.length_nil, List.cons_append, List.nil_append, List.append_nil, Option.some.injEq, exists_eq_left', exists_eq_left, Option.map_some, Option.bind_some, wEq_int, wNe_int, wEq_bl, wNe_bl, D.bl.injEq, D.int.injEq, wipeD, and_true, true_and, Int.zero_add, Int.toNat_natCast, Bool.or_false, Bool.or_true, Bool.false_or, Bool.true_or, Bool.not_true, Bool.not_false]
  refine draw_int ⟨by omega, by omega⟩ fun way hw => ?_
  -- the end, from good rows
  have fin : ∀ (wc : WCl) (ys : List D) (a b c' d' e : Option D), ys.length = m → (∀ (i : Nat) (y : D), ys[i]? = some y → good c i y) → wpSs wc (.cons (.ret (.tup (.cons (.var 2) (.cons (.var 4) .nil)))) .nil) [some (.pur p), some (.int (m : Int)), some (.int (c : Int)), some (.int (way : Int)), some (.lst true ys), a, b, c', d'] { nx := fun _ => Q .non, rt := Q } := fun wc ys a b c' d' e hl h => by
    simp only [WR, WO, WL, isBad, dvD, mapAtD, anyBT, Tgs.len, List.map_cons, List.map_nil, List.replicate, List.length_cons, List.length_nil, List.cons_append, List.nil_append, List.append_nil, Option.some.injEq, exists_eq_left', exists_eq_left, Option.map_some, Option.bind_some, wEq_int, wNe_int, wEq_bl, wNe_bl, D.bl.injEq, D.int.injEq, wipeD, and_true, true_and, Int.zero_add, Int.toNat_natCast, Bool.or_false, Bool.or_true, Bool.false_or, Bool.true_or, Bool.not_true, Bool.not_false, WRS]
    obtain ⟨rs, h1, h2, h3⟩ := good_wf hc hm hl h
    exact ⟨small_line (by omega), q _ rs h1 h2 h3⟩
  rw [wp_step]
  simp only [WR, WO, WL, isBad, dvD, mapAtD, anyBT, Tgs.len, List.map_cons, List.map_nil, List.replicate, List.length_cons, List.length_nil, List.cons_append, List.nil_append, List.append_nil, Option.some.injEq, exists_eq_left', exists_eq_left, Option.map_some, Option.bind_some, wEq_int, wNe_int, wEq_bl, wNe_bl, D.bl.injEq, D.int.injEq, wipeD, and_true, true_and, Int.zero_add, Int.toNat_natCast, Bool.or_false, Bool.or_true, Bool.false_or, Bool.true_or, Bool.not_true, Bool.not_false]
  have sm : ∀ {i : Nat}, i ≤ 20 → ((List.range i).map fun i : Nat => D.int (i : Int)).length < LF := fun h => by rw [List.length_map, List.length_range]; exact small_LF (by omega)
  refine ⟨rng_n (by omega), sm (by omega), lc_rngR (good c) (by omega) (fun g hg K F k => ?_) fun ys hl hys => ?_⟩
  · simp only [WR, WO, WL, isBad, dvD, mapAtD, anyBT, Tgs.len, List.map_cons, List.map_nil, List.replicate, List.length_cons, List.length_nil, List.cons_append, List.nil_append, List.append_nil, Option.some.injEq, exists_eq_left', exists_eq_left, Option.map_some, Option.bind_some, wEq_int, wNe_int, wEq_bl, wNe_bl, D.bl.injEq, D.int.injEq, wipeD, and_true, true_and, Int.zero_add, Int.toNat_natCast, Bool.or_false, Bool.or_true, Bool.false_or, Bool.true_or, Bool.not_true, Bool.not_false]
    refine ⟨rng_n (by omega), sm (by omega), lc_rngR (fun _ y => ∃ x, y = .int x ∧ 0 ≤ x ∧ x < (c : Int)) (by omega) (fun l hl K F k => ?_) fun zs hl hzs => ?_⟩
    · simp only [WR, WO, WL, isBad, dvD, mapAtD, anyBT, Tgs.len, List.map_cons, List.map_nil, List.replicate, List.length_cons, List.length_nil, List.cons_append, List.nil_append, List.append_nil, Option.some.injEq, exists_eq_left', exists_eq_left, Option.map_some, Option.bind_some, wEq_int, wNe_int, wEq_bl, wNe_bl, D.bl.injEq, D.int.injEq, wipeD, and_true, true_and, Int.zero_add, Int.toNat_natCast, Bool.or_false, Bool.or_true, Bool.false_or, Bool.true_or, Bool.not_true, Bool.not_false]
      exact draw_int ⟨by omega, by omega⟩ fun n hn => k _ ⟨n, rfl, by omega, by omega⟩
    · obtain ⟨r, rfl, hr⟩ := ints_of hzs
      exact k _ ⟨r, rfl, by rw [List.length_map] at hl; exact hl, hr⟩
  -- the rest
  have rest1 : ∀ (wc : WCl) (hwc : ∀ Q : D → Prop, (∀ k : Nat, k < 3 → Q (.int (k : Int))) → wc 21 [.pur p, .int 3] Q) (ys : List D) (a b c' : Option D), ys.length = m → (∀ (i : Nat) (y : D), ys[i]? = some y → good c i y) → wpSs wc (.cons (.ite (.cmp .eq (.var 3) (.int 1)) (.cons (.asg (.name 8) (.lc [5] (.name 5) (.rng (.cons (.var 1) .nil)) .yes (.call 21 (.cons (.var 0) (.cons (.int 3) .nil)) []))) (.cons (.asg (.name 4) (.lc [5] (.name 5) (.rng (.cons (.var 1) .nil)) .yes (.lc [6] (.name 6) (.rng (.cons (.var 5) .nil)) .yes (.ite (.cmp .eq (.sub (.var 8) (.var 5)) (.sub (.var 8) (.var 6))) (.int 0) (.bin .sub (.var 2) (.int 1)))))) .nil)) .nil) (.cons (.ret (.tup (.cons (.var 2) (.cons (.var 4) .nil)))) .nil)) [some (.pur p), some (.int (m : Int)), some (.int (c : Int)), some (.int (way : Int)), some (.lst true ys), a, b, c', none] { nx := fun _ => Q .non, rt := Q } := fun wc hwc ys a b c' hl h => by
    rw [wp_step]
    by_cases e : (way : Int) = 1
    · simp only [WR, WO, WL, isBad, dvD, mapAtD, anyBT, Tgs.len, List.map_cons, List.map_nil, List.replicate, List.length_cons, List.length_nil, List.cons_append, List.nil_append, List.append_nil, Option.some.injEq, exists_eq_left', exists_eq_left, Option.map_some, Option.bind_some, wEq_int, wNe_int, wEq_bl, wNe_bl, D.bl.injEq, D.int.injEq, wipeD, and_true, true_and, Int.zero_add, Int.toNat_natCast, Bool.or_false, Bool.or_true, Bool.false_or, Bool.true_or, Bool.not_true, Bool.not_false, decide_eq_true e]
      rw [wp_step]
      simp only [WR, WO, WL, isBad, dvD, mapAtD, anyBT, Tgs.len, List.map_cons, List.map_nil, List.replicate, List.length_cons, List.length_nil, List.cons_append, List.nil_append, List.append_nil, Option.some.injEq, exists_eq_left', exists_eq_left, Option.map_some, Option.bind_some, wEq_int, wNe_int, wEq_bl, wNe_bl, D.bl.injEq, D.int.injEq, wipeD, and_true, true_and, Int.zero_add, Int.toNat_natCast, Bool.or_false, Bool.or_true, Bool.false_or, Bool.true_or, Bool.not_true, Bool.not_false]
      refine ⟨rng_n (by omega), sm (by omega), lc_rngR (fun _ y => ∃ x, y = .int x ∧ True) (by omega) (fun l hl K F k => ?_) fun zs hz hzs => ?_⟩
      · simp only [WR, WO, WL, isBad, dvD, mapAtD, anyBT, Tgs.len, List.map_cons, List.map_nil, List.replicate, List.length_cons, List.length_nil, List.cons_append, List.nil_append, List.append_nil, Option.some.injEq, exists_eq_left', exists_eq_left, Option.map_some, Option.bind_some, wEq_int, wNe_int, wEq_bl, wNe_bl, D.bl.injEq, D.int.injEq, wipeD, and_true, true_and, Int.zero_add, Int.toNat_natCast, Bool.or_false, Bool.or_true, Bool.false_or, Bool.true_or, Bool.not_true, Bool.not_false]
        exact hwc _ fun n hn => k _ ⟨n, rfl, trivial⟩
      obtain ⟨r, rfl, hr⟩ := ints_of hzs
      rw [List.length_map] at hz
      rw [wp_step]
      simp only [WR, WO, WL, isBad, dvD, mapAtD, anyBT, Tgs.len, List.map_cons, List.map_nil, List.replicate, List.length_cons, List.length_nil, List.cons_append, List.nil_append, List.append_nil, Option.some.injEq, exists_eq_left', exists_eq_left, Option.map_some, Option.bind_some, wEq_int, wNe_int, wEq_bl, wNe_bl, D.bl.injEq, D.int.injEq, wipeD, and_true, true_and, Int.zero_add, Int.toNat_natCast, Bool.or_false, Bool.or_true, Bool.false_or, Bool.true_or, Bool.not_true, Bool.not_false]
      refine ⟨rng_n (by omega), sm (by omega), lc_rngR (good c) (by omega) (fun g hg K F k => ?_) fun ys hl hys => ?_⟩
      · simp only [WR, WO, WL, isBad, dvD, mapAtD, anyBT, Tgs.len, List.map_cons, List.map_nil, List.replicate, List.length_cons, List.length_nil, List.cons_append, List.nil_append, List.append_nil, Option.some.injEq, exists_eq_left', exists_eq_left, Option.map_some, Option.bind_some, wEq_int, wNe_int, wEq_bl, wNe_bl, D.bl.injEq, D.int.injEq, wipeD, and_true, true_and, Int.zero_add, Int.toNat_natCast, Bool.or_false, Bool.or_true, Bool.false_or, Bool.true_or, Bool.not_true, Bool.not_false]
        refine ⟨rng_n (by omega), sm (by omega), lc_rngR (fun _ y => ∃ x, y = .int x ∧ 0 ≤ x ∧ x < (c : Int)) (by omega) (fun l hl K F k => ?_) fun zs hl hzs => ?_⟩
        · have r1 : (r.map D.int)[g]? = some (.int (r[g]'(by omega))) := by rw [List.getElem?_map, List.getElem?_eq_getElem (by omega)]; rfl
          have r2 : (r.map D.int)[l]? = some (.int (r[l]'(by omega))) := by rw [List.getElem?_map, List.getElem?_eq_getElem (by omega)]; rfl
          simp only [WR, WO, WL, isBad, dvD, mapAtD, anyBT, Tgs.len, List.map_cons, List.map_nil, List.replicate, List.length_cons, List.length_nil, List.cons_append, List.nil_append, List.append_nil, Option.some.injEq, exists_eq_left', exists_eq_left, Option.map_some, Option.bind_some, wEq_int, wNe_int, wEq_bl, wNe_bl, D.bl.injEq, D.int.injEq, wipeD, and_true, true_and, Int.zero_add, Int.toNat_natCast, Bool.or_false, Bool.or_true, Bool.false_or, Bool.true_or, Bool.not_true, Bool.not_false, atA_nat, r1, r2]
          split
          · exact k _ ⟨0, rfl, by omega, by omega⟩
          · exact k _ ⟨(c : Int) - 1, rfl, by omega, by omega⟩
        · obtain ⟨r, rfl, hr⟩ := ints_of hzs
          exact k _ ⟨r, rfl, by rw [List.length_map] at hl; exact hl, hr⟩
      · rw [wp_nil]
        exact fin wc ys _ _ _ _ none hl hys
    · simp only [WR, WO, WL, isBad, dvD, mapAtD, anyBT, Tgs.len, List.map_cons, List.map_nil, List.replicate, List.length_cons, List.length_nil, List.cons_append, List.nil_append, List.append_nil, Option.some.injEq, exists_eq_left', exists_eq_left, Option.map_some, Option.bind_some, wEq_int, wNe_int, wEq_bl, wNe_bl, D.bl.injEq, D.int.injEq, wipeD, and_true, true_and, Int.zero_add, Int.toNat_natCast, Bool.or_false, Bool.or_true, Bool.false_or, Bool.true_or, Bool.not_true, Bool.not_false, decide_eq_false e]
      rw [wp_nil]
      exact fin wc ys a b c' none none hl h
  rw [wp_step]
  by_cases e : (way : Int) = 0
  · simp only [WR, WO, WL, isBad, dvD, mapAtD, anyBT, Tgs.len, List.map_cons, List.map_nil, List.replicate, List.length_cons, List.length_nil, List.cons_append, List.nil_append, List.append_nil, Option.some.injEq, exists_eq_left', exists_eq_left, Option.map_some, Option.bind_some, wEq_int, wNe_int, wEq_bl, wNe_bl, D.bl.injEq, D.int.injEq, wipeD, and_true, true_and, Int.zero_add, Int.toNat_natCast, Bool.or_false, Bool.or_true, Bool.false_or, Bool.true_or, Bool.not_true, Bool.not_false, decide_eq_true e]
    rw [wp_step]
    simp only [WR, WO, WL, isBad, dvD, mapAtD, anyBT, Tgs.len, List.map_cons, List.map_nil, List.replicate, List.length_cons, List.length_nil, List.cons_append, List.nil_append, List.append_nil, Option.some.injEq, exists_eq_left', exists_eq_left, Option.map_some, Option.bind_some, wEq_int, wNe_int, wEq_bl, wNe_bl, D.bl.injEq, D.int.injEq, wipeD, and_true, true_and, Int.zero_add, Int.toNat_natCast, Bool.or_false, Bool.or_true, Bool.false_or, Bool.true_or, Bool.not_true, Bool.not_false]
    refine ⟨rng_n (by omega), sm (by omega), lc_rngR (fun _ y => ∃ x, y = .int x ∧ 0 ≤ x ∧ x < (c : Int)) (by omega) (fun l hl K F k => ?_) fun zs hz hzs => ?_⟩
    · simp only [WR, WO, WL, isBad, dvD, mapAtD, anyBT, Tgs.len, List.map_cons, List.map_nil, List.replicate, List.length_cons, List.length_nil, List.cons_append, List.nil_append, List.append_nil, Option.some.injEq, exists_eq_left', exists_eq_left, Option.map_some, Option.bind_some, wEq_int, wNe_int, wEq_bl, wNe_bl, D.bl.injEq, D.int.injEq, wipeD, and_true, true_and, Int.zero_add, Int.toNat_natCast, Bool.or_false, Bool.or_true, Bool.false_or, Bool.true_or, Bool.not_true, Bool.not_false]
      exact draw_int ⟨by omega, by omega⟩ fun n hn => k _ ⟨n, rfl, by omega, by omega⟩
    obtain ⟨r, rfl, hr⟩ := ints_of hzs
    rw [List.length_map] at hz
    rw [wp_step]
    simp only [WR, WO, WL, isBad, dvD, mapAtD, anyBT, Tgs.len, List.map_cons, List.map_nil, List.replicate, List.length_cons, List.length_nil, List.cons_append, List.nil_append, List.append_nil, Option.some.injEq, exists_eq_left', exists_eq_left, Option.map_some, Option.bind_some, wEq_int, wNe_int, wEq_bl, wNe_bl, D.bl.injEq, D.int.injEq, wipeD, and_true, true_and, Int.zero_add, Int.toNat_natCast, Bool.or_false, Bool.or_true, Bool.false_or, Bool.true_or, Bool.not_true, Bool.not_false]
    refine ⟨rng_n (by omega), sm (by omega), lc_rngR (good c) (by omega) (fun g hg K F k => ?_) fun ys hl hys => ?_⟩
    · simp only [WR, WO, WL, isBad, dvD, mapAtD, anyBT, Tgs.len, List.map_cons, List.map_nil, List.replicate, List.length_cons, List.length_nil, List.cons_append, List.nil_append, List.append_nil, Option.some.injEq, exists_eq_left', exists_eq_left, Option.map_some, Option.bind_some, wEq_int, wNe_int, wEq_bl, wNe_bl, D.bl.injEq, D.int.injEq, wipeD, and_true, true_and, Int.zero_add, Int.toNat_natCast, Bool.or_false, Bool.or_true, Bool.false_or, Bool.true_or, Bool.not_true, Bool.not_false]
      refine ⟨rng_n (by omega), sm (by omega), lc_rngR (fun _ y => ∃ x, y = .int x ∧ 0 ≤ x ∧ x < (c : Int)) (by omega) (fun l hl K F k => ?_) fun zs hl hzs => ?_⟩
      · have hix : ∃ i : Nat, i < r.length ∧ (if (m : Int) - (g : Int) + (l : Int) < (g : Int) - (l : Int) then (m : Int) - (g : Int) + (l : Int) else (g : Int) - (l : Int)) - 1 = (i : Int) := by
          split
          · exact ⟨m - g + l - 1, by omega, by omega⟩
          · exact ⟨g - l - 1, by omega, by omega⟩
        obtain ⟨i, hi, ei⟩ := hix
        have r1 : (r.map D.int)[i]? = some (.int r[i]) := by rw [List.getElem?_map, List.getElem?_eq_getElem hi]; rfl
        simp only [WR, WO, WL, isBad, dvD, mapAtD, anyBT, Tgs.len, List.map_cons, List.map_nil, List.replicate, List.length_cons, List.length_nil, List.cons_append, List.nil_append, List.append_nil, Option.some.injEq, exists_eq_left', exists_eq_left, Option.map_some, Option.bind_some, wEq_int, wNe_int, wEq_bl, wNe_bl, D.bl.injEq, D.int.injEq, wipeD, and_true, true_and, Int.zero_add, Int.toNat_natCast, Bool.or_false, Bool.or_true, Bool.false_or, Bool.true_or, Bool.not_true, Bool.not_false, ei, atA_nat, r1]
        exact k _ ⟨r[i], rfl, hr _ (List.getElem_mem hi)⟩
      · obtain ⟨r, rfl, hr⟩ := ints_of hzs
        exact k _ ⟨r, rfl, by rw [List.length_map] at hl; exact hl, hr⟩
    · rw [wp_nil]
      exact rest1 (wclO TT sp md d) (fun Q h => draw_int ⟨by omega, by omega⟩ fun k hk => h k (by omega)) ys none none (some (.lst true (r.map .int))) hl hys
  · simp only [WR, WO, WL, isBad, dvD, mapAtD, anyBT, Tgs.len, List.map_cons, List.map_nil, List.replicate, List.length_cons, List.length_nil, List.cons_append, List.nil_append, List.append_nil, Option.some.injEq, exists_eq_left', exists_eq_left, Option.map_some, Option.bind_some, wEq_int, wNe_int, wEq_bl, wNe_bl, D.bl.injEq, D.int.injEq, wipeD, and_true, true_and, Int.zero_add, Int.toNat_natCast, Bool.or_false, Bool.or_true, Bool.false_or, Bool.true_or, Bool.not_true, Bool.not_false, decide_eq_false e]
    rw [wp_nil]
    exact rest1 (wclO TT sp md d) (fun Q h => draw_int ⟨by omega, by omega⟩ fun k hk => h k (by omega)) ys none none none hl hys
end K03
end MP
namespace MP
open PySem
mutual
theorem D.re_re : ∀ d : D, d.re.re = d.re
  | .lst _ xs => by show D.lst false (D.reL (D.reL xs)) = .lst false (D.reL xs); rw [D.reL_re xs]
  | .tup xs => by show D.tup (D.reL (D.reL xs)) = .tup (D.reL xs); rw [D.reL_re xs]
  | .non => rfl | .bl _ => rfl | .int _ => rfl | .str _ => rfl | .dct => rfl | .pur _ => rfl
theorem D.reL_re : ∀ ds : List D, D.reL (D.reL ds) = D.reL ds
  | [] => rfl
  | d :: ds => by show d.re.re :: D.reL (D.reL ds) = d.re :: D.reL ds; rw [D.re_re d, D.reL_re ds]
end
mutual
theorem D.re_old : ∀ d : D, d.re.old = true
  | .lst _ xs => by show (!false && D.oldL (D.reL xs)) = true; rw [D.reL_old xs]; rfl
  | .tup xs => by show D.oldL (D.reL xs) = true; exact D.reL_old xs
  | .non => rfl | .bl _ => rfl | .int _ => rfl | .str _ => rfl | .dct => rfl | .pur _ => rfl
theorem D.reL_old : ∀ ds : List D, D.oldL (D.reL ds) = true
  | [] => rfl
  | d :: ds => by show (d.re.old && D.oldL (D.reL ds)) = true; rw [D.re_old d, D.reL_old ds]; rfl
end
namespace K03
open MP.D
theorem re_ints (r : List Int) : D.reL (r.map D.int) = r.map .int := by
  induction r with
  | nil => rfl
  | cons a r ih => show D.int a :: D.reL (r.map D.int) = _; rw [ih]; rfl
theorem re_rows {ds : List D} {rs : List (List Int)} (p : Paired RowR ds rs) : D.reL ds = rs.map fun r => .lst false (r.map .int) := by
  induction p with
  | nil => rfl
  | cons r _ ih =>
    obtain ⟨t, rfl⟩ := r
    show D.lst false (D.reL (_ : List D)) :: D.reL _ = _
    rw [ih, re_ints]
    rfl
theorem rowR_mk (t : Bool) (rs : List (List Int)) : Paired RowR (rs.map fun r => D.lst t (r.map .int)) rs := by
  induction rs with
  | nil => exact .nil
  | cons r rs ih => exact .cons ⟨t, rfl⟩ ih
theorem re_mk (t : Bool) (rs : List (List Int)) : D.reL (rs.map fun r => D.lst t (r.map .int)) = rs.map fun r => .lst false (r.map .int) := re_rows (rowR_mk t rs)
theorem PR.re {v : D} {c : Nat} {rs : List (List Int)} (p : PR v c rs) : PR v.re c rs := by
  obtain ⟨t, ds, rfl, pr⟩ := p
  refine ⟨false, D.reL ds, rfl, ?_⟩
  rw [re_rows pr]
  exact rowR_mk false rs
/-- what same wants of one side -/
structure Fit (k : Nat) (x : D) : Prop where
  d : dp x ≤ k
  o : x.okD = true
  n : noD x = true
theorem Fit.mono {k l : Nat} {x : D} (h : Fit k x) (hl : k ≤ l) : Fit l x := ⟨Nat.le_trans h.d hl, h.o, h.n⟩
theorem fit_list {k : Nat} : ∀ {xs : List D}, (∀ x ∈ xs, Fit k x) → dpL xs ≤ k ∧ D.okL xs = true ∧ noDL xs = true
  | [], _ => ⟨Nat.zero_le _, rfl, rfl⟩
  | x :: xs, h => by
    obtain ⟨h1, h2, h3⟩ := fit_list fun y hy => h y (List.mem_cons_of_mem _ hy)
    have a := h x List.mem_cons_self
    refine ⟨?_, ?_, ?_⟩
    · show max (dp x) (dpL xs) ≤ k
      have := a.d
      omega
    · show (x.okD && D.okL xs) = true
      rw [a.o, h2]; rfl
    · show (noD x && noDL xs) = true
      rw [a.n, h3]; rfl
theorem Fit.lst {k : Nat} {t : Bool} {xs : List D} (hl : xs.length ≤ 100000) (h : ∀ x ∈ xs, Fit k x) : Fit (k + 1) (.lst t xs) := by
  obtain ⟨h1, h2, h3⟩ := fit_list h
  refine ⟨Nat.succ_le_succ h1, ?_, h3⟩
  show (Nat.ble xs.length 100000 && D.okL xs) = true
  rw [Nat.ble_eq_true_of_le hl, h2]; rfl
theorem Fit.tup {k : Nat} {xs : List D} (hl : xs.length ≤ 100000) (h : ∀ x ∈ xs, Fit k x) : Fit (k + 1) (.tup xs) := by
  obtain ⟨h1, h2, h3⟩ := fit_list h
  refine ⟨Nat.succ_le_succ h1, ?_, h3⟩
  show (Nat.ble xs.length 100000 && D.okL xs) = true
  rw [Nat.ble_eq_true_of_le hl, h2]; rfl
theorem Fit.int (i : Int) : Fit 0 (.int i) := ⟨Nat.le_refl _, rfl, rfl⟩
theorem Fit.bl (b : Bool) : Fit 0 (.bl b) := ⟨Nat.le_refl _, rfl, rfl⟩
theorem Fit.ints {t : Bool} {r : List Int} (h : r.length ≤ 100000) : Fit 1 (.lst t (r.map .int)) := Fit.lst (by rw [List.length_map]; exact h) fun x hx => by
  obtain ⟨i, _, rfl⟩ := List.mem_map.mp hx
  exact Fit.int i
theorem Fit.rows {t : Bool} {ds : List D} {rs : List (List Int)} (p : Paired RowR ds rs) (hl : rs.length ≤ 100000) (h : ∀ r ∈ rs, r.length ≤ 100000) : Fit 2 (.lst t ds) := Fit.lst (by rw [Paired.len p]; exact hl) fun x hx => by
  obtain ⟨i, hi⟩ := List.getElem?_of_mem hx
  obtain ⟨r, hr, t, rfl⟩ := Paired.at1 p hi
  exact Fit.ints (h r (List.mem_of_getElem? hr))
variable {d : Nat} {Q : D → Prop}
theorem same_fit {k : Nat} {x y : D} (hx : Fit k x) (hr : x.re = y.re) (q : Q (.bl true)) : W (d + k + 1) 24 [x, y] Q := same_ok k hx.d hr hx.o hx.n q
theorem mem1 {P : D → Prop} {a : D} (ha : P a) : ∀ x ∈ [a], P x := fun x hx => by rw [List.mem_singleton.mp hx]; exact ha
theorem memC {P : D → Prop} {a : D} {l : List D} (ha : P a) (hl : ∀ x ∈ l, P x) : ∀ x ∈ a :: l, P x := fun x hx => by
  rcases List.mem_cons.mp hx with e | hx
  · rw [e]; exact ha
  · exact hl x hx
theorem mem0 {P : D → Prop} : ∀ x ∈ ([] : List D), P x := fun x hx => (List.not_mem_nil hx).elim
theorem new_ints (r : List Int) : D.newL (r.map D.int) = true := by
  induction r with
  | nil => rfl
  | cons a r ih => exact ih
theorem new_rows (rs : List (List Int)) : D.newL (rs.map fun r => D.lst true (r.map .int)) = true := by
  induction rs with
  | nil => rfl
  | cons r rs ih =>
    show ((true && D.newL (r.map D.int)) && D.newL (rs.map fun r => D.lst true (r.map .int))) = true
    rw [new_ints, ih]; rfl
theorem nodes_ints (r : List Int) : D.nodesL (r.map D.int) = r.length := by
  induction r with
  | nil => rfl
  | cons a r ih => show 1 + D.nodesL (r.map D.int) = _; rw [ih, List.length_cons]; omega
theorem nodes_rows {t : Bool} : ∀ {rs : List (List Int)}, (∀ r ∈ rs, r.length ≤ 20) → D.nodesL (rs.map fun r => D.lst t (r.map .int)) ≤ 21 * rs.length
  | [], _ => Nat.le_refl _
  | r :: rs, h => by
    have := nodes_rows (t := t) (rs := rs) fun x hx => h x (List.mem_cons_of_mem _ hx)
    have := h r List.mem_cons_self
    show D.nodesL (r.map D.int) + 1 + D.nodesL (rs.map fun r => D.lst t (r.map .int)) ≤ _
    rw [nodes_ints, List.length_cons]
    omega
theorem depth_ints (r : List Int) : D.depthL (r.map D.int) = 0 := by
  induction r with
  | nil => rfl
  | cons a r ih => show max 0 (D.depthL (r.map D.int)) = 0; rw [ih]; rfl
theorem depth_rows {t : Bool} (rs : List (List Int)) : D.depthL (rs.map fun r => D.lst t (r.map .int)) ≤ 1 := by
  induction rs with
  | nil => exact Nat.zero_le _
  | cons r rs ih =>
    show max (D.depthL (r.map D.int) + 1) (D.depthL (rs.map fun r => D.lst t (r.map .int))) ≤ 1
    rw [depth_ints]
    omega
structure Spo (n : Nat) (x : D) : Prop where
  new : x.new = true
  nd : x.nodes ≤ n
  dp : x.depth ≤ 10
theorem spo_list {n : Nat} : ∀ {xs : List D}, (∀ x ∈ xs, Spo n x) → D.newL xs = true ∧ D.nodesL xs ≤ n * xs.length ∧ D.depthL xs ≤ 10
  | [], _ => ⟨rfl, Nat.le_refl _, Nat.zero_le _⟩
  | x :: xs, h => by
    obtain ⟨h1, h2, h3⟩ := spo_list fun y hy => h y (List.mem_cons_of_mem _ hy)
    have a := h x List.mem_cons_self
    refine ⟨?_, ?_, ?_⟩
    · show (x.new && D.newL xs) = true
      rw [a.new, h1]; rfl
    · show x.nodes + D.nodesL xs ≤ _
      have := a.nd
      rw [List.length_cons, Nat.mul_succ]
      omega
    · show max x.depth (D.depthL xs) ≤ 10
      have := a.dp
      omega
theorem spo_top {n : Nat} {xs : List D} (h : ∀ x ∈ xs, Spo n x) (hn : n * xs.length ≤ 40000) : (D.lst true xs).new = true ∧ 2 * (D.lst true xs).nodes + 2 ≤ lineN ∧ (D.lst true xs).depth ≤ 30 := by
  obtain ⟨h1, h2, h3⟩ := spo_list h
  refine ⟨by show (true && D.newL xs) = true; rw [h1]; rfl, small_line ?_, ?_⟩
  · show 2 * (D.nodesL xs + 1) + 2 ≤ 100000
    omega
  · show D.depthL xs + 1 ≤ 30
    omega
theorem spo_mkP {c : Nat} {rs : List (List Int)} (hl : rs.length ≤ 20) (h : ∀ r ∈ rs, r.length ≤ 20) : Spo 500 (mkP c rs) := by
  refine ⟨?_, ?_, ?_⟩
  · show (true && ((true && D.newL (rs.map fun r => D.lst true (r.map .int))) && true)) = true
    rw [new_rows]; rfl
  · have := nodes_rows (t := true) h
    show 1 + (D.nodesL (rs.map fun r => D.lst true (r.map .int)) + 1 + 0) + 1 ≤ 500
    omega
  · have := depth_rows (t := true) rs
    show max 0 (max (D.depthL (rs.map fun r => D.lst true (r.map .int)) + 1) 0) + 1 ≤ 10
    omega
theorem spo_mkR {rs : List (List Int)} (hl : rs.length ≤ 20) (h : ∀ r ∈ rs, r.length ≤ 20) : Spo 500 (mkR rs) := by
  refine ⟨?_, ?_, ?_⟩
  · show (true && D.newL (rs.map fun r => D.lst true (r.map .int))) = true
    rw [new_rows]; rfl
  · have := nodes_rows (t := true) h
    show D.nodesL (rs.map fun r => D.lst true (r.map .int)) + 1 ≤ 500
    omega
  · have := depth_rows (t := true) rs
    show D.depthL (rs.map fun r => D.lst true (r.map .int)) + 1 ≤ 10
    omega
theorem spo_ints {r : List Int} (h : r.length ≤ 20) : Spo 500 (.lst true (r.map .int)) := by
  refine ⟨?_, ?_, ?_⟩
  · show (true && D.newL (r.map D.int)) = true
    rw [new_ints]; rfl
  · show D.nodesL (r.map D.int) + 1 ≤ 500
    rw [nodes_ints]; omega
  · show D.depthL (r.map D.int) + 1 ≤ 10
    rw [depth_ints]; omega
end K03
end MP
namespace MP
open PySem
/-- what is in front of a place, what is behind -/
theorem cut_to {α : Type} (xs : List α) (i : Nat) (h : i ≤ xs.length) : cutA xs none (some (i : Int)) = xs.take i := by
  show (xs.drop 0).take (min i xs.length - 0) = xs.take i
  rw [List.drop_zero, Nat.sub_zero, Nat.min_eq_left h]
theorem cut_from {α : Type} (xs : List α) (i : Nat) : cutA xs (some (i : Int)) none = xs.drop i := by
  show (xs.drop (min i xs.length)).take (xs.length - min i xs.length) = _
  by_cases c : i ≤ xs.length
  · rw [Nat.min_eq_left c, List.take_of_length_le (by rw [List.length_drop]; exact Nat.le_refl _)]
  · rw [Nat.min_eq_right (by omega), List.drop_of_length_le (Nat.le_refl _), List.drop_of_length_le (by omega), List.take_nil]
theorem enum_map {α : Type} (f : D → α) (xs : List D) : (enumD xs 0).map f = (List.range xs.length).map fun i : Nat => f (.tup [.int (i : Int), xs.getD i .non]) := by
  apply List.ext_getElem?
  intro i
  rw [List.getElem?_map, enum_get, List.getElem?_map]
  by_cases c : i < xs.length
  · rw [List.getElem?_range c, List.getElem?_eq_getElem c]
    show some (f (D.tup [.int (i : Int), xs[i]])) = some (f (D.tup [.int (i : Int), xs.getD i .non]))
    rw [List.getD_eq_getElem?_getD, List.getElem?_eq_getElem c]
    rfl
  · rw [List.getElem?_eq_none_iff.mpr (by omega), List.getElem?_eq_none_iff.mpr (by rw [List.length_range]; omega)]
    rfl
namespace K03
open MP.D
variable {d : Nat} {Q : D → Prop}
def gs (g : List Nat) : List D := g.map fun i : Nat => D.int (i : Int)
theorem gs_ok (g : List Nat) : D.okL (gs g) = true := by
  induction g with
  | nil => rfl
  | cons a g ih => exact ih
theorem gs_get (g : List Nat) (i : Nat) : (gs g)[i]? = (g[i]?).map fun i : Nat => D.int (i : Int) := List.getElem?_map ..
theorem gs_len (g : List Nat) : (gs g).length = g.length := List.length_map ..
theorem is_guest_any {v x : D} {c : Nat} {rs : List (List Int)} (p : PR v c rs) (h : x.okD = true) (q : Q (.bl (okc (rs.length : Int) x))) : W (d + 3) 6 [v, x] Q := by
  refine wclO_body (F := ⟨2, 2, b_is_guest⟩) rfl rfl rfl rfl ?_
  unfold b_is_guest startD
  obtain ⟨t, ds, rfl, pr⟩ := p
  have e1 : atA [D.int (c : Int), .lst t ds] 1 = some (.lst t ds) := rfl
  simp only [WR, WO, WL, isBad, dvD, mapAtD, anyBT, Tgs.len, List.map_cons, List.map_nil, List.replicate, List.length_cons, List.length_nil, List.cons_append, List.nil_append, List.append_nil, Option.some.injEq, exists_eq_left', exists_eq_left, Option.map_some, Option.bind_some, wEq_int, wNe_int, wEq_bl, wNe_bl, D.bl.injEq, D.int.injEq, wipeD, and_true, true_and, Int.zero_add, Int.toNat_natCast, Bool.or_false, Bool.or_true, Bool.false_or, Bool.true_or, Bool.not_true, Bool.not_false, WRS, e1]
  refine is_count_ok h ?_
  cases x with
  | int i =>
    have q : Q (.bl (decide (0 ≤ i) && decide (i < (rs.length : Int)))) := q
    simp only [WR, WO, WL, isBad, dvD, mapAtD, anyBT, Tgs.len, List.map_cons, List.map_nil, List.replicate, List.length_cons, List.length_nil, List.cons_append, List.nil_append, List.append_nil, Option.some.injEq, exists_eq_left', exists_eq_left, Option.map_some, Option.bind_some, wEq_int, wNe_int, wEq_bl, wNe_bl, D.bl.injEq, D.int.injEq, wipeD, and_true, true_and, Int.zero_add, Int.toNat_natCast, Bool.or_false, Bool.or_true, Bool.false_or, Bool.true_or, Bool.not_true, Bool.not_false, WRS, cntB, ite_self, Paired.len pr]
    by_cases z : 0 ≤ i
    · rw [decide_eq_true z] at q ⊢
      exact q
    · rw [decide_eq_false z] at q ⊢
      exact q
  | _ => exact ⟨_, rfl, q⟩
/-- rising -/
def ascD : List D → Bool
  | .int a :: .int b :: r => decide (a < b) && ascD (.int b :: r)
  | _ => true
def agB (n : Int) : D → Bool
  | .lst _ xs => xs.all (okc n) && ascD xs
  | _ => false
def ltD : D → Bool
  | .tup [.int a, .int b] => decide (a < b)
  | _ => false
theorem zip_asc {n : Int} : ∀ {xs : List D}, xs.all (okc n) = true → band ((zipD xs (xs.drop 1)).map ltD) = ascD xs
  | [], _ => rfl
  | [x], h => by cases x <;> rfl
  | x :: y :: r, h => by
    have h : (okc n x && (okc n y && r.all (okc n))) = true := h
    obtain ⟨h1, h2⟩ := and2 h
    have ih := zip_asc (xs := y :: r) h2
    obtain ⟨h3, h4⟩ := and2 h2
    cases x with
    | int a =>
      cases y with
      | int b =>
        show (decide (a < b) && band ((zipD (.int b :: r) r).map ltD)) = (decide (a < b) && ascD (.int b :: r))
        rw [← ih]
        rfl
      | _ => cases h3
    | _ => cases h1
theorem zip_len : ∀ (xs ys : List D), (zipD xs ys).length ≤ xs.length
  | [], _ => Nat.zero_le _
  | _ :: _, [] => Nat.zero_le _
  | x :: xs, y :: ys => Nat.succ_le_succ (zip_len xs ys)
theorem zip_int {n : Int} : ∀ {xs : List D}, xs.all (okc n) = true → ∀ z ∈ zipD xs (xs.drop 1), ∃ a b, z = .tup [.int a, .int b]
  | [], _ => fun z hz => by cases hz
  | [x], h => fun z hz => by cases hz
  | x :: y :: r, h => fun z hz => by
    have h : (okc n x && (okc n y && r.all (okc n))) = true := h
    obtain ⟨h1, h2⟩ := and2 h
    obtain ⟨h3, h4⟩ := and2 h2
    rcases List.mem_cons.mp (show z ∈ D.tup [x, y] :: zipD (y :: r) r from hz) with e | hz
    · subst e
      cases x with
      | int a =>
        cases y with
        | int b => exact ⟨a, b, rfl⟩
        | _ => cases h3
      | _ => cases h1
    · exact zip_int (xs := y :: r) h2 z hz
theorem are_guests_ok {v x : D} {c : Nat} {rs : List (List Int)} (p : PR v c rs) (h : x.okD = true) (q : Q (.bl (agB (rs.length : Int) x))) : W (d + 4) 9 [v, x] Q := by
  refine wclO_body (F := ⟨2, 5, b_are_guests⟩) rfl rfl rfl rfl ?_
  unfold b_are_guests startD
  cases x with
  | lst t xs =>
    obtain ⟨h1, h2⟩ := and2 h
    have h1 := Nat.le_of_ble_eq_true h1
    simp only [WR, WO, WL, isBad, dvD, mapAtD, anyBT, Tgs.len, List.map_cons, List.map_nil, List.replicate, List.length_cons, List.length_nil, List.cons_append, List.nil_append, List.append_nil, Option.some.injEq, exists_eq_left', exists_eq_left, Option.map_some, Option.bind_some, wEq_int, wNe_int, wEq_bl, wNe_bl, D.bl.injEq, D.int.injEq, wipeD, and_true, true_and, Int.zero_add, Int.toNat_natCast, Bool.or_false, Bool.or_true, Bool.false_or, Bool.true_or, Bool.not_true, Bool.not_false, WRS]
    refine ⟨small_LF h1, lc_det (fun x => .bl (okc (rs.length : Int) x)) xs (fun x hx K F k => ?_) (small_line h1) ?_⟩
    · simp only [WR, WO, WL, isBad, dvD, mapAtD, anyBT, Tgs.len, List.map_cons, List.map_nil, List.replicate, List.length_cons, List.length_nil, List.cons_append, List.nil_append, List.append_nil, Option.some.injEq, exists_eq_left', exists_eq_left, Option.map_some, Option.bind_some, wEq_int, wNe_int, wEq_bl, wNe_bl, D.bl.injEq, D.int.injEq, wipeD, and_true, true_and, Int.zero_add, Int.toNat_natCast, Bool.or_false, Bool.or_true, Bool.false_or, Bool.true_or, Bool.not_true, Bool.not_false, WRS]
      exact is_guest_any p (D.okL_mem h2 hx) k
    · have e : (xs.map fun x => D.bl (okc (rs.length : Int) x)) = (xs.map (okc (rs.length : Int))).map D.bl := by rw [List.map_map]; rfl
      rw [e]
      simp only [WR, WO, WL, isBad, dvD, mapAtD, anyBT, Tgs.len, List.map_cons, List.map_nil, List.replicate, List.length_cons, List.length_nil, List.cons_append, List.nil_append, List.append_nil, Option.some.injEq, exists_eq_left', exists_eq_left, Option.map_some, Option.bind_some, wEq_int, wNe_int, wEq_bl, wNe_bl, D.bl.injEq, D.int.injEq, wipeD, and_true, true_and, Int.zero_add, Int.toNat_natCast, Bool.or_false, Bool.or_true, Bool.false_or, Bool.true_or, Bool.not_true, Bool.not_false, WRS, D.bls_map]
      rw [band_all, List.all_map]
      have q : Q (.bl (xs.all (okc (rs.length : Int)) && ascD xs)) := q
      have e3 : xs.all (id ∘ okc (rs.length : Int)) = xs.all (okc (rs.length : Int)) := rfl
      rw [e3]
      cases hb : xs.all (okc (rs.length : Int)) with
      | false =>
        rw [hb] at q
        simp only [WR, WO, WL, isBad, dvD, mapAtD, anyBT, Tgs.len, List.map_cons, List.map_nil, List.replicate, List.length_cons, List.length_nil, List.cons_append, List.nil_append, List.append_nil, Option.some.injEq, exists_eq_left', exists_eq_left, Option.map_some, Option.bind_some, wEq_int, wNe_int, wEq_bl, wNe_bl, D.bl.injEq, D.int.injEq, wipeD, and_true, true_and, Int.zero_add, Int.toNat_natCast, Bool.or_false, Bool.or_true, Bool.false_or, Bool.true_or, Bool.not_true, Bool.not_false, WRS]
        exact q
      | true =>
        rw [hb] at q
        simp only [WR, WO, WL, isBad, dvD, mapAtD, anyBT, Tgs.len, List.map_cons, List.map_nil, List.replicate, List.length_cons, List.length_nil, List.cons_append, List.nil_append, List.append_nil, Option.some.injEq, exists_eq_left', exists_eq_left, Option.map_some, Option.bind_some, wEq_int, wNe_int, wEq_bl, wNe_bl, D.bl.injEq, D.int.injEq, wipeD, and_true, true_and, Int.zero_add, Int.toNat_natCast, Bool.or_false, Bool.or_true, Bool.false_or, Bool.true_or, Bool.not_true, Bool.not_false, WRS]
        have ec : cutA xs (some 1) none = xs.drop 1 := cut_from xs 1
        rw [ec]
        have zl := zip_len xs (xs.drop 1)
        refine ⟨small_LF (by omega), lc_det (fun z => .bl (ltD z)) _ (fun z hz K F k => ?_) (small_line (by omega)) ?_⟩
        · obtain ⟨a, b, rfl⟩ := zip_int hb z hz
          simp only [WR, WO, WL, isBad, dvD, mapAtD, anyBT, Tgs.len, List.map_cons, List.map_nil, List.replicate, List.length_cons, List.length_nil, List.cons_append, List.nil_append, List.append_nil, Option.some.injEq, exists_eq_left', exists_eq_left, Option.map_some, Option.bind_some, wEq_int, wNe_int, wEq_bl, wNe_bl, D.bl.injEq, D.int.injEq, wipeD, and_true, true_and, Int.zero_add, Int.toNat_natCast, Bool.or_false, Bool.or_true, Bool.false_or, Bool.true_or, Bool.not_true, Bool.not_false, WRS]
          exact k
        · have e : ((zipD xs (xs.drop 1)).map fun x => D.bl (ltD x)) = ((zipD xs (xs.drop 1)).map ltD).map D.bl := by rw [List.map_map]; rfl
          rw [e]
          simp only [WR, WO, WL, isBad, dvD, mapAtD, anyBT, Tgs.len, List.map_cons, List.map_nil, List.replicate, List.length_cons, List.length_nil, List.cons_append, List.nil_append, List.append_nil, Option.some.injEq, exists_eq_left', exists_eq_left, Option.map_some, Option.bind_some, wEq_int, wNe_int, wEq_bl, wNe_bl, D.bl.injEq, D.int.injEq, wipeD, and_true, true_and, Int.zero_add, Int.toNat_natCast, Bool.or_false, Bool.or_true, Bool.false_or, Bool.true_or, Bool.not_true, Bool.not_false, WRS, D.bls_map]
          rw [zip_asc hb]
          exact q
  | pur n => cases h
  | _ =>
    simp only [WR, WO, WL, isBad, dvD, mapAtD, anyBT, Tgs.len, List.map_cons, List.map_nil, List.replicate, List.length_cons, List.length_nil, List.cons_append, List.nil_append, List.append_nil, Option.some.injEq, exists_eq_left', exists_eq_left, Option.map_some, Option.bind_some, wEq_int, wNe_int, wEq_bl, wNe_bl, D.bl.injEq, D.int.injEq, wipeD, and_true, true_and, Int.zero_add, Int.toNat_natCast, Bool.or_false, Bool.or_true, Bool.false_or, Bool.true_or, Bool.not_true, Bool.not_false, WRS]
    exact q
/-- rising guests -/
structure Asc (n : Nat) (g : List Nat) : Prop where
  lt : g.Pairwise (· < ·)
  all : ∀ a ∈ g, a < n
theorem asc_len {n : Nat} : ∀ {g : List Nat} (k : Nat), g.Pairwise (· < ·) → (∀ a ∈ g, k ≤ a ∧ a < n) → g.length ≤ n - k
  | [], k, _, _ => Nat.zero_le _
  | a :: g, k, hp, h => by
    obtain ⟨h1, h2⟩ := List.pairwise_cons.mp hp
    have ha := h a List.mem_cons_self
    have := asc_len (g := g) (a + 1) h2 fun b hb => ⟨h1 b hb, (h b (List.mem_cons_of_mem _ hb)).2⟩
    rw [List.length_cons]
    omega
theorem Asc.len {n : Nat} {g : List Nat} (h : Asc n g) : g.length ≤ n := by
  have := asc_len (n := n) (g := g) 0 h.lt fun a ha => ⟨Nat.zero_le _, h.all a ha⟩
  omega
theorem asc_ascD : ∀ {g : List Nat}, g.Pairwise (· < ·) → ascD (gs g) = true
  | [], _ => rfl
  | [_], _ => rfl
  | a :: b :: r, h => by
    obtain ⟨h1, h2⟩ := List.pairwise_cons.mp h
    have ih := asc_ascD h2
    show (decide ((a : Int) < (b : Int)) && ascD (gs (b :: r))) = true
    rw [ih, decide_eq_true (by have := h1 b List.mem_cons_self; omega)]
    rfl
theorem Asc.ag {n : Nat} {g : List Nat} (h : Asc n g) (t : Bool) : agB (n : Int) (.lst t (gs g)) = true := by
  show ((gs g).all (okc (n : Int)) && ascD (gs g)) = true
  rw [asc_ascD h.lt, Bool.and_true, List.all_eq_true]
  intro x hx
  obtain ⟨a, ha, rfl⟩ := List.mem_map.mp hx
  have := h.all a ha
  show (decide (0 ≤ (a : Int)) && decide ((a : Int) < (n : Int))) = true
  rw [decide_eq_true (by omega), decide_eq_true (by omega)]
  rfl
theorem gs_okD {n : Nat} {g : List Nat} (h : Asc n g) (hn : n ≤ 100000) (t : Bool) : (D.lst t (gs g)).okD = true := by
  show (Nat.ble (gs g).length 100000 && D.okL (gs g)) = true
  rw [gs_ok, Bool.and_true, gs_len]
  have := h.len
  exact Nat.ble_eq_true_of_le (by omega)
/-- each with all ahead of it -/
def crowdB (rs : List (List Int)) (x : Int) (g : List Nat) : Bool := (List.range g.length).all fun i => (g.take i).all fun l => decide (col rs (g.getD i 0) l = x)
theorem crowd_iff {rs : List (List Int)} {x : Int} {g : List Nat} : crowdB rs x g = true ↔ g.Pairwise fun a b => col rs b a = x := by
  unfold crowdB
  rw [List.all_eq_true, List.pairwise_iff_getElem]
  constructor
  · intro h i j hi hj hij
    have h1 := List.all_eq_true.mp (h j (List.mem_range.mpr hj)) g[i] (List.mem_take_iff_getElem.mpr ⟨i, by omega, rfl⟩)
    rw [List.getD_eq_getElem?_getD, List.getElem?_eq_getElem hj] at h1
    exact of_decide_eq_true h1
  · intro h j hj
    have hj := List.mem_range.mp hj
    rw [List.all_eq_true]
    intro l hl
    obtain ⟨i, hi, rfl⟩ := List.mem_take_iff_getElem.mp hl
    rw [List.getD_eq_getElem?_getD, List.getElem?_eq_getElem hj]
    exact decide_eq_true (h i j (by omega) hj (by omega))
theorem take_ne {n : Nat} {g : List Nat} (h : Asc n g) {i : Nat} (hi : i < g.length) {l : Nat} (hl : l ∈ g.take i) : l < g[i] ∧ l < n ∧ g[i] < n := by
  obtain ⟨j, hj, rfl⟩ := List.mem_take_iff_getElem.mp hl
  have := (List.pairwise_iff_getElem.mp h.lt) j i (by omega) hi (by omega)
  exact ⟨this, h.all _ (List.getElem_mem _), h.all _ (List.getElem_mem _)⟩
theorem gs_cut {g : List Nat} {i : Nat} (h : i ≤ g.length) : cutA (gs g) none (some (i : Int)) = gs (g.take i) := by
  rw [cut_to _ _ (by rw [gs_len]; exact h)]
  unfold gs
  rw [List.map_take]
theorem band_map {α : Type} (f : α → Bool) (l : List α) : band (l.map f) = l.all f := by rw [band_all, List.all_map]; rfl
/-- a judgement of each of some numbers -/
theorem gs_lc {as : D → (PEnv → Prop) → Prop} {tt : PEnv → (Bool → Prop) → Prop} {el : PEnv → (D → Prop) → Prop} {R : D → Prop} (f : Nat → D) (l : List Nat) (hl : l.length ≤ 100000)
    (h : ∀ a : Nat, a ∈ l → ∀ (K : D → Prop) (F : Prop), K (f a) → as (.int (a : Int)) fun δ => tt δ fun b => match b with
      | true => el δ K
      | false => F) (q : R (.lst true (l.map f))) : wLc as tt el (gs l) [] R := by
  refine lc_det (fun y => match y with | .int i => f i.toNat | _ => .non) _ (fun y hy K F k => ?_) (by rw [gs_len]; exact small_line hl) ?_
  · obtain ⟨a, ha, rfl⟩ := List.mem_map.mp hy
    exact h a ha K F k
  · unfold gs
    rw [List.map_map]
    exact q
theorem bls_of {α : Type} (f : α → Bool) (l : List α) : D.bls (l.map fun a => D.bl (f a)) = some (l.map f) := by
  rw [show (l.map fun a => D.bl (f a)) = (l.map f).map D.bl by rw [List.map_map]; rfl]
  exact D.bls_map _
theorem crowd_there_ok {v : D} {c : Nat} {rs : List (List Int)} (p : PR v c rs) (w : Wf c rs) {g : List Nat} (hg : Asc rs.length g) {x : Int} {t : Bool} (q : Q (.bl (crowdB rs x g))) : W (d + 2) 10 [v, .int x, .lst t (gs g)] Q := by
  refine wclO_body (F := ⟨3, 6, b_is_crowd_there⟩) rfl rfl rfl rfl ?_
  unfold b_is_crowd_there startD
  rw [wp_step]
  simp only [WR, WO, WL, isBad, dvD, mapAtD, anyBT, Tgs.len, List.map_cons, List.map_nil, List.replicate, List.length_cons, List.length_nil, List.cons_append, List.nil_append, List.append_nil, Option.some.injEq, exists_eq_left', exists_eq_left, Option.map_some, Option.bind_some, wEq_int, wNe_int, wEq_bl, wNe_bl, D.bl.injEq, D.int.injEq, wipeD, and_true, true_and, Int.zero_add, Int.toNat_natCast, Bool.or_false, Bool.or_true, Bool.false_or, Bool.true_or, Bool.not_true, Bool.not_false]
  have gl := hg.len
  have s10 := small10 w
  refine ⟨by rw [enum_len, gs_len]; exact small_LF (by omega), ?_⟩
  refine for_inv (fun i δ => (∀ j, j < i → ((g.take j).all fun l => decide (col rs (g.getD j 0) l = x)) = true) ∧ ∃ r3 r4 r5, δ = [some v, some (.int x), some (.lst t (gs g)), r3, r4, r5]) _ ?_ ?_ _ 0 _ (fun j => by rw [Nat.zero_add]) (by omega) ⟨fun j hj => by omega, _, _, _, rfl⟩
  · rintro i y δ hy ⟨hi, r3, r4, r5, rfl⟩ K hK
    rw [enum_get, gs_get] at hy
    cases e : g[i]? with
    | none => rw [e] at hy; cases hy
    | some a =>
      rw [e] at hy
      have hy := Option.some.inj hy
      subst hy
      have hl : i < g.length := (List.getElem?_eq_some_iff.mp e).1
      have ha : g[i] = a := (List.getElem?_eq_some_iff.mp e).2
      simp only [WR, WO, WL, isBad, dvD, mapAtD, anyBT, Tgs.len, List.map_cons, List.map_nil, List.replicate, List.length_cons, List.length_nil, List.cons_append, List.nil_append, List.append_nil, Option.some.injEq, exists_eq_left', exists_eq_left, Option.map_some, Option.bind_some, wEq_int, wNe_int, wEq_bl, wNe_bl, D.bl.injEq, D.int.injEq, wipeD, and_true, true_and, Int.zero_add, Int.toNat_natCast, Bool.or_false, Bool.or_true, Bool.false_or, Bool.true_or, Bool.not_true, Bool.not_false]
      rw [wp_step]
      simp only [WR, WO, WL, isBad, dvD, mapAtD, anyBT, Tgs.len, List.map_cons, List.map_nil, List.replicate, List.length_cons, List.length_nil, List.cons_append, List.nil_append, List.append_nil, Option.some.injEq, exists_eq_left', exists_eq_left, Option.map_some, Option.bind_some, wEq_int, wNe_int, wEq_bl, wNe_bl, D.bl.injEq, D.int.injEq, wipeD, and_true, true_and, Int.zero_add, Int.toNat_natCast, Bool.or_false, Bool.or_true, Bool.false_or, Bool.true_or, Bool.not_true, Bool.not_false, gs_cut (Nat.le_of_lt hl)]
      refine ⟨by rw [gs_len, List.length_take]; exact small_LF (by omega), gs_lc (fun l => .bl (decide (col rs a l = x))) (g.take i) (by rw [List.length_take]; omega) (fun l hl2 K F k => ?_) ?_⟩
      · obtain ⟨n1, n2, n3⟩ := take_ne hg hl hl2
        rw [ha] at n1 n3
        simp only [WR, WO, WL, isBad, dvD, mapAtD, anyBT, Tgs.len, List.map_cons, List.map_nil, List.replicate, List.length_cons, List.length_nil, List.cons_append, List.nil_append, List.append_nil, Option.some.injEq, exists_eq_left', exists_eq_left, Option.map_some, Option.bind_some, wEq_int, wNe_int, wEq_bl, wNe_bl, D.bl.injEq, D.int.injEq, wipeD, and_true, true_and, Int.zero_add, Int.toNat_natCast, Bool.or_false, Bool.or_true, Bool.false_or, Bool.true_or, Bool.not_true, Bool.not_false, WRS]
        refine colour_there_ok p w n3 n2 (by omega) ?_
        simp only [WR, WO, WL, isBad, dvD, mapAtD, anyBT, Tgs.len, List.map_cons, List.map_nil, List.replicate, List.length_cons, List.length_nil, List.cons_append, List.nil_append, List.append_nil, Option.some.injEq, exists_eq_left', exists_eq_left, Option.map_some, Option.bind_some, wEq_int, wNe_int, wEq_bl, wNe_bl, D.bl.injEq, D.int.injEq, wipeD, and_true, true_and, Int.zero_add, Int.toNat_natCast, Bool.or_false, Bool.or_true, Bool.false_or, Bool.true_or, Bool.not_true, Bool.not_false, WRS]
        exact k
      · refine ⟨_, bls_of _ _, ?_⟩
        rw [band_map]
        have eg : g.getD i 0 = a := by rw [List.getD_eq_getElem?_getD, e]; rfl
        cases hb : (g.take i).all fun l => decide (col rs a l = x) with
        | true =>
          simp only [WR, WO, WL, isBad, dvD, mapAtD, anyBT, Tgs.len, List.map_cons, List.map_nil, List.replicate, List.length_cons, List.length_nil, List.cons_append, List.nil_append, List.append_nil, Option.some.injEq, exists_eq_left', exists_eq_left, Option.map_some, Option.bind_some, wEq_int, wNe_int, wEq_bl, wNe_bl, D.bl.injEq, D.int.injEq, wipeD, and_true, true_and, Int.zero_add, Int.toNat_natCast, Bool.or_false, Bool.or_true, Bool.false_or, Bool.true_or, Bool.not_true, Bool.not_false, WRS]
          refine hK _ ⟨fun j hj => ?_, _, _, _, rfl⟩
          by_cases ej : j = i
          · subst ej
            rw [eg]
            exact hb
          · exact hi j (by omega)
        | false =>
          simp only [WR, WO, WL, isBad, dvD, mapAtD, anyBT, Tgs.len, List.map_cons, List.map_nil, List.replicate, List.length_cons, List.length_nil, List.cons_append, List.nil_append, List.append_nil, Option.some.injEq, exists_eq_left', exists_eq_left, Option.map_some, Option.bind_some, wEq_int, wNe_int, wEq_bl, wNe_bl, D.bl.injEq, D.int.injEq, wipeD, and_true, true_and, Int.zero_add, Int.toNat_natCast, Bool.or_false, Bool.or_true, Bool.false_or, Bool.true_or, Bool.not_true, Bool.not_false, WRS]
          have : crowdB rs x g = false := by
            cases hc : crowdB rs x g with
            | false => rfl
            | true =>
              have := List.all_eq_true.mp hc i (List.mem_range.mpr hl)
              rw [eg, hb] at this
              cases this
          rw [this] at q
          exact q
  · rintro δ ⟨hi, r3, r4, r5, rfl⟩
    rw [enum_len, gs_len] at hi
    have : crowdB rs x g = true := List.all_eq_true.mpr fun j hj => hi j (List.mem_range.mp hj)
    rw [this] at q
    dsimp only
    simp only [WR, WO, WL, isBad, dvD, mapAtD, anyBT, Tgs.len, List.map_cons, List.map_nil, List.replicate, List.length_cons, List.length_nil, List.cons_append, List.nil_append, List.append_nil, Option.some.injEq, exists_eq_left', exists_eq_left, Option.map_some, Option.bind_some, wEq_int, wNe_int, wEq_bl, wNe_bl, D.bl.injEq, D.int.injEq, wipeD, and_true, true_and, Int.zero_add, Int.toNat_natCast, Bool.or_false, Bool.or_true, Bool.false_or, Bool.true_or, Bool.not_true, Bool.not_false, WRS]
    exact q
theorem is_crowd_ok {v : D} {c : Nat} {rs : List (List Int)} (p : PR v c rs) (w : Wf c rs) {g : List Nat} (hg : Asc rs.length g) {x : Int} (hx : 0 ≤ x ∧ x < (c : Int)) {t : Bool} (q : Q (.bl (crowdB rs x g))) : W (d + 6) 11 [v, .int x, .lst t (gs g)] Q := by
  refine wclO_body (F := ⟨3, 3, b_is_crowd⟩) rfl rfl rfl rfl ?_
  unfold b_is_crowd startD
  simp only [WR, WO, WL, isBad, dvD, mapAtD, anyBT, Tgs.len, List.map_cons, List.map_nil, List.replicate, List.length_cons, List.length_nil, List.cons_append, List.nil_append, List.append_nil, Option.some.injEq, exists_eq_left', exists_eq_left, Option.map_some, Option.bind_some, wEq_int, wNe_int, wEq_bl, wNe_bl, D.bl.injEq, D.int.injEq, wipeD, and_true, true_and, Int.zero_add, Int.toNat_natCast, Bool.or_false, Bool.or_true, Bool.false_or, Bool.true_or, Bool.not_true, Bool.not_false, WRS]
  refine check_party_ok p w (check_colour_ok (d := d + 2) p hx (are_guests_ok (d := d + 1) p (gs_okD hg (small10 w) t) ?_))
  rw [hg.ag t]
  exact ⟨_, rfl, crowd_there_ok (d := d + 3) p w hg q⟩
theorem is_crowd_no {v y : D} {c : Nat} {rs : List (List Int)} (p : PR v c rs) (w : Wf c rs) (h : y.okD = true) (hn : agB (rs.length : Int) y = false) {x : Int} (hx : 0 ≤ x ∧ x < (c : Int)) (q : Q (.bl false)) : W (d + 6) 11 [v, .int x, y] Q := by
  refine wclO_body (F := ⟨3, 3, b_is_crowd⟩) rfl rfl rfl rfl ?_
  unfold b_is_crowd startD
  simp only [WR, WO, WL, isBad, dvD, mapAtD, anyBT, Tgs.len, List.map_cons, List.map_nil, List.replicate, List.length_cons, List.length_nil, List.cons_append, List.nil_append, List.append_nil, Option.some.injEq, exists_eq_left', exists_eq_left, Option.map_some, Option.bind_some, wEq_int, wNe_int, wEq_bl, wNe_bl, D.bl.injEq, D.int.injEq, wipeD, and_true, true_and, Int.zero_add, Int.toNat_natCast, Bool.or_false, Bool.or_true, Bool.false_or, Bool.true_or, Bool.not_true, Bool.not_false, WRS]
  refine check_party_ok p w (check_colour_ok (d := d + 2) p hx (are_guests_ok (d := d + 1) p h ?_))
  rw [hn]
  exact ⟨_, rfl, q⟩
/-- the part of some guests -/
def partR (rs : List (List Int)) (g : List Nat) : List (List Int) := (List.range g.length).map fun i => (g.take i).map fun l => col rs (g.getD i 0) l
theorem part_there_ok {v : D} {c : Nat} {rs : List (List Int)} (p : PR v c rs) (w : Wf c rs) {g : List Nat} (hg : Asc rs.length g) {t : Bool} (q : Q (mkP c (partR rs g))) : W (d + 2) 12 [v, .lst t (gs g)] Q := by
  refine wclO_body (F := ⟨2, 5, b_part_there⟩) rfl rfl rfl rfl ?_
  unfold b_part_there startD
  have p0 := p
  obtain ⟨t0, ds, rfl, pr⟩ := p
  have e0 : atA [D.int (c : Int), .lst t0 ds] 0 = some (.int (c : Int)) := rfl
  have gl := hg.len
  have s10 := small10 w
  simp only [WR, WO, WL, isBad, dvD, mapAtD, anyBT, Tgs.len, List.map_cons, List.map_nil, List.replicate, List.length_cons, List.length_nil, List.cons_append, List.nil_append, List.append_nil, Option.some.injEq, exists_eq_left', exists_eq_left, Option.map_some, Option.bind_some, wEq_int, wNe_int, wEq_bl, wNe_bl, D.bl.injEq, D.int.injEq, wipeD, and_true, true_and, Int.zero_add, Int.toNat_natCast, Bool.or_false, Bool.or_true, Bool.false_or, Bool.true_or, Bool.not_true, Bool.not_false, WRS, e0]
  refine ⟨by rw [enum_len, gs_len]; exact small_LF (by omega), lc_det (fun y => match y with | .tup [.int i, _] => .lst true (((g.take i.toNat).map fun l => col rs (g.getD i.toNat 0) l).map .int) | _ => .non) _ (fun y hy K F k => ?_) (by rw [enum_len, gs_len]; exact small_line (by omega)) ?_⟩
  · obtain ⟨i, hi⟩ := List.getElem?_of_mem hy
    rw [enum_get, gs_get] at hi
    cases e : g[i]? with
    | none => rw [e] at hi; cases hi
    | some a =>
      rw [e] at hi
      cases hi
      have hl : i < g.length := (List.getElem?_eq_some_iff.mp e).1
      have ha : g[i] = a := (List.getElem?_eq_some_iff.mp e).2
      have eg : g.getD i 0 = a := by rw [List.getD_eq_getElem?_getD, e]; rfl
      have k : K (.lst true (((g.take i).map fun l => col rs (g.getD i 0) l).map .int)) := k
      rw [eg] at k
      simp only [WR, WO, WL, isBad, dvD, mapAtD, anyBT, Tgs.len, List.map_cons, List.map_nil, List.replicate, List.length_cons, List.length_nil, List.cons_append, List.nil_append, List.append_nil, Option.some.injEq, exists_eq_left', exists_eq_left, Option.map_some, Option.bind_some, wEq_int, wNe_int, wEq_bl, wNe_bl, D.bl.injEq, D.int.injEq, wipeD, and_true, true_and, Int.zero_add, Int.toNat_natCast, Bool.or_false, Bool.or_true, Bool.false_or, Bool.true_or, Bool.not_true, Bool.not_false, WRS, gs_cut (Nat.le_of_lt hl)]
      refine ⟨by rw [gs_len, List.length_take]; exact small_LF (by omega), lc_det (fun y => match y with | .int l => .int (col rs a l.toNat) | _ => .non) _ (fun y hy K F k => ?_) (by rw [gs_len, List.length_take]; exact small_line (by omega)) ?_⟩
      · obtain ⟨l, hl2, rfl⟩ := List.mem_map.mp hy
        obtain ⟨n1, n2, n3⟩ := take_ne hg hl hl2
        rw [ha] at n1 n3
        simp only [WR, WO, WL, isBad, dvD, mapAtD, anyBT, Tgs.len, List.map_cons, List.map_nil, List.replicate, List.length_cons, List.length_nil, List.cons_append, List.nil_append, List.append_nil, Option.some.injEq, exists_eq_left', exists_eq_left, Option.map_some, Option.bind_some, wEq_int, wNe_int, wEq_bl, wNe_bl, D.bl.injEq, D.int.injEq, wipeD, and_true, true_and, Int.zero_add, Int.toNat_natCast, Bool.or_false, Bool.or_true, Bool.false_or, Bool.true_or, Bool.not_true, Bool.not_false, WRS]
        exact colour_there_ok p0 w n3 n2 (by omega) k
      · unfold gs
        rw [List.map_map]
        rw [List.map_map] at k
        exact k
  · rw [enum_map, gs_len]
    refine ⟨small_line (by decide), ?_⟩
    unfold mkP mkR partR at q
    rw [List.map_map] at q
    exact q
theorem part_of_ok {v : D} {c : Nat} {rs : List (List Int)} (p : PR v c rs) (w : Wf c rs) {g : List Nat} (hg : Asc rs.length g) {t : Bool} (q : Q (mkP c (partR rs g))) : W (d + 6) 13 [v, .lst t (gs g)] Q := by
  refine wclO_body (F := ⟨2, 2, b_part_of⟩) rfl rfl rfl rfl ?_
  unfold b_part_of startD
  simp only [WR, WO, WL, isBad, dvD, mapAtD, anyBT, Tgs.len, List.map_cons, List.map_nil, List.replicate, List.length_cons, List.length_nil, List.cons_append, List.nil_append, List.append_nil, Option.some.injEq, exists_eq_left', exists_eq_left, Option.map_some, Option.bind_some, wEq_int, wNe_int, wEq_bl, wNe_bl, D.bl.injEq, D.int.injEq, wipeD, and_true, true_and, Int.zero_add, Int.toNat_natCast, Bool.or_false, Bool.or_true, Bool.false_or, Bool.true_or, Bool.not_true, Bool.not_false, WRS]
  refine check_party_ok p w (are_guests_ok (d := d + 1) p (gs_okD hg (small10 w) t) ?_)
  rw [hg.ag t]
  simp only [WR, WO, WL, isBad, dvD, mapAtD, anyBT, Tgs.len, List.map_cons, List.map_nil, List.replicate, List.length_cons, List.length_nil, List.cons_append, List.nil_append, List.append_nil, Option.some.injEq, exists_eq_left', exists_eq_left, Option.map_some, Option.bind_some, wEq_int, wNe_int, wEq_bl, wNe_bl, D.bl.injEq, D.int.injEq, wipeD, and_true, true_and, Int.zero_add, Int.toNat_natCast, Bool.or_false, Bool.or_true, Bool.false_or, Bool.true_or, Bool.not_true, Bool.not_false, WRS]
  exact part_there_ok (d := d + 3) p w hg q
theorem are_sizes_ok {c : Nat} {ss : List Int} (hl : ss.length = c) (hc : c ≤ 100) (h : ∀ s ∈ ss, 1 ≤ s) {t : Bool} (q : Q (.bl true)) : W (d + 3) 14 [.int (c : Int), .lst t (ss.map .int)] Q := by
  refine wclO_body (F := ⟨2, 3, b_are_sizes⟩) rfl rfl rfl rfl ?_
  unfold b_are_sizes startD
  simp only [WR, WO, WL, isBad, dvD, mapAtD, anyBT, Tgs.len, List.map_cons, List.map_nil, List.replicate, List.length_cons, List.length_nil, List.cons_append, List.nil_append, List.append_nil, Option.some.injEq, exists_eq_left', exists_eq_left, Option.map_some, Option.bind_some, wEq_int, wNe_int, wEq_bl, wNe_bl, D.bl.injEq, D.int.injEq, wipeD, and_true, true_and, Int.zero_add, Int.toNat_natCast, Bool.or_false, Bool.or_true, Bool.false_or, Bool.true_or, Bool.not_true, Bool.not_false, WRS, List.length_map, hl, decide_true]
  refine ⟨small_LF (by omega), lc_det (fun _ => .bl true) _ (fun y hy K F k => ?_) (by rw [List.length_map]; exact small_line (by omega)) ?_⟩
  · obtain ⟨i, hi, rfl⟩ := List.mem_map.mp hy
    simp only [WR, WO, WL, isBad, dvD, mapAtD, anyBT, Tgs.len, List.map_cons, List.map_nil, List.replicate, List.length_cons, List.length_nil, List.cons_append, List.nil_append, List.append_nil, Option.some.injEq, exists_eq_left', exists_eq_left, Option.map_some, Option.bind_some, wEq_int, wNe_int, wEq_bl, wNe_bl, D.bl.injEq, D.int.injEq, wipeD, and_true, true_and, Int.zero_add, Int.toNat_natCast, Bool.or_false, Bool.or_true, Bool.false_or, Bool.true_or, Bool.not_true, Bool.not_false, WRS]
    refine is_count_int ?_
    rw [decide_eq_true (by rw [if_neg (by decide)]; exact h i hi)]
    exact k
  · simp only [WR, WO, WL, isBad, dvD, mapAtD, anyBT, Tgs.len, List.map_cons, List.map_nil, List.replicate, List.length_cons, List.length_nil, List.cons_append, List.nil_append, List.append_nil, Option.some.injEq, exists_eq_left', exists_eq_left, Option.map_some, Option.bind_some, wEq_int, wNe_int, wEq_bl, wNe_bl, D.bl.injEq, D.int.injEq, wipeD, and_true, true_and, Int.zero_add, Int.toNat_natCast, Bool.or_false, Bool.or_true, Bool.false_or, Bool.true_or, Bool.not_true, Bool.not_false, WRS, all_true (fun _ => D.bl true) fun _ _ => rfl, band_true]
    exact q
theorem check_sizes_ok {v : D} {c : Nat} {rs : List (List Int)} (p : PR v c rs) (w : Wf c rs) {ss : List Int} (hl : ss.length = c) (h : ∀ s ∈ ss, 1 ≤ s) {t : Bool} (q : Q .non) : W (d + 4) 15 [v, .lst t (ss.map .int)] Q := by
  refine wclO_body (F := ⟨2, 2, b_check_sizes⟩) rfl rfl rfl rfl ?_
  unfold b_check_sizes startD
  obtain ⟨t0, ds, rfl, pr⟩ := p
  have e0 : atA [D.int (c : Int), .lst t0 ds] 0 = some (.int (c : Int)) := rfl
  simp only [WR, WO, WL, isBad, dvD, mapAtD, anyBT, Tgs.len, List.map_cons, List.map_nil, List.replicate, List.length_cons, List.length_nil, List.cons_append, List.nil_append, List.append_nil, Option.some.injEq, exists_eq_left', exists_eq_left, Option.map_some, Option.bind_some, wEq_int, wNe_int, wEq_bl, wNe_bl, D.bl.injEq, D.int.injEq, wipeD, and_true, true_and, Int.zero_add, Int.toNat_natCast, Bool.or_false, Bool.or_true, Bool.false_or, Bool.true_or, Bool.not_true, Bool.not_false, WRS, e0]
  refine are_sizes_ok hl (by have := w.four; omega) h ?_
  simp only [WR, WO, WL, isBad, dvD, mapAtD, anyBT, Tgs.len, List.map_cons, List.map_nil, List.replicate, List.length_cons, List.length_nil, List.cons_append, List.nil_append, List.append_nil, Option.some.injEq, exists_eq_left', exists_eq_left, Option.map_some, Option.bind_some, wEq_int, wNe_int, wEq_bl, wNe_bl, D.bl.injEq, D.int.injEq, wipeD, and_true, true_and, Int.zero_add, Int.toNat_natCast, Bool.or_false, Bool.or_true, Bool.false_or, Bool.true_or, Bool.not_true, Bool.not_false, WRS]
  exact q
end K03
end MP
namespace MP
open PySem
namespace K03
open MP.D
variable {d : Nat} {Q : D → Prop}
structure Cr (rs : List (List Int)) (x : Int) (g : List Nat) : Prop where
  p : g.Pairwise fun a b => a < b ∧ col rs b a = x
  all : ∀ a ∈ g, a < rs.length
def Has (rs : List (List Int)) (x : Int) (k : Nat) : Prop := ∃ g, Cr rs x g ∧ g.length = k
/-- a crowd under way, and who is left for it -/
structure Ent (rs : List (List Int)) (x : Int) (e : List Nat × List Nat) : Prop where
  c : Cr rs x e.1
  lp : e.2.Pairwise (· < ·)
  all : ∀ a ∈ e.2, a < rs.length
  cl : ∀ a ∈ e.1, ∀ b ∈ e.2, a < b ∧ col rs b a = x
def EntR (y : D) (e : List Nat × List Nat) : Prop := ∃ t1 t2, y = .tup [.lst t1 (gs e.1), .lst t2 (gs e.2)]
def Live (rs : List (List Int)) (x : Int) (k : Nat) (e : List Nat × List Nat) : Prop := ∃ s, s.Sublist e.2 ∧ Cr rs x s ∧ e.1.length + s.length = k
def wt (es : List (List Nat × List Nat)) : Nat := (es.map fun e => 2 ^ e.2.length).sum
theorem wt_app (a b : List (List Nat × List Nat)) : wt (a ++ b) = wt a + wt b := by
  unfold wt
  rw [List.map_append, List.sum_append]
theorem wt_one (e : List Nat × List Nat) : wt [e] = 2 ^ e.2.length := by
  unfold wt
  simp
theorem wt_len (a : List (List Nat × List Nat)) : a.length ≤ wt a := by
  induction a with
  | nil => exact Nat.le_refl _
  | cons e a ih =>
    have h1 : wt (e :: a) = 2 ^ e.2.length + wt a := by unfold wt; rw [List.map_cons, List.sum_cons]
    have := Nat.one_le_two_pow (n := e.2.length)
    rw [List.length_cons, h1]
    omega
theorem Cr.asc {rs : List (List Int)} {x : Int} {g : List Nat} (h : Cr rs x g) : Asc rs.length g := ⟨h.p.imp fun h => h.1, h.all⟩
theorem sub_head {g : Nat} {s : List Nat} : ∀ {l : List Nat}, (g :: s).Sublist l → ∃ a, l[a]? = some g ∧ s.Sublist (l.drop (a + 1))
  | [], h => by cases h
  | y :: l, h => by
    cases h with
    | cons _ h =>
      obtain ⟨a, h1, h2⟩ := sub_head h
      exact ⟨a + 1, by simpa using h1, by simpa using h2⟩
    | cons_cons _ h => exact ⟨0, rfl, by simpa using h⟩
def dE (e : List Nat × List Nat) : PyData := .tuple [.list (e.1.map fun i : Nat => .int (i : Int)), .list (e.2.map fun i : Nat => .int (i : Int))]
theorem dat_gs (k : Nat) (g : List Nat) : D.datL (D.dat k) (gs g) = some (g.map fun i : Nat => PyData.int (i : Int)) := by
  have := datL_ints k (g.map fun i : Nat => (i : Int))
  rw [List.map_map, List.map_map] at this
  exact this
theorem dat_ents {ys : List D} {es : List (List Nat × List Nat)} (h : Paired EntR ys es) : D.datL (D.dat 59) ys = some (es.map dE) := by
  induction h with
  | nil => rfl
  | cons r _ ih =>
    rename_i b _ _ _
    obtain ⟨t1, t2, rfl⟩ := r
    unfold D.datL
    rw [ih]
    have e1 : D.dat 58 (.lst t1 (gs b.1)) = some (.list (b.1.map fun i : Nat => .int (i : Int))) := by
      show (D.datL (D.dat 57) (gs b.1)).map PyData.list = _
      rw [dat_gs]; rfl
    have e2 : D.dat 58 (.lst t2 (gs b.2)) = some (.list (b.2.map fun i : Nat => .int (i : Int))) := by
      show (D.datL (D.dat 57) (gs b.2)).map PyData.list = _
      rw [dat_gs]; rfl
    have e3 : D.dat 59 (.tup [.lst t1 (gs b.1), .lst t2 (gs b.2)]) = some (dE b) := by
      show (D.datL (D.dat 58) [.lst t1 (gs b.1), .lst t2 (gs b.2)]).map PyData.tuple = _
      simp only [D.datL, e1, e2]
      rfl
    simp only [e3]
    rfl
theorem lay_gs (g : List Nat) : PyData.canLayAll0 (g.map fun i : Nat => .int (i : Int)) = true ∧ PyData.depthAll (g.map fun i : Nat => .int (i : Int)) = 0 := by
  induction g with
  | nil => exact ⟨by simp [PyData.canLayAll0], by simp [PyData.depthAll]⟩
  | cons a g ih => exact ⟨by simp [PyData.canLayAll0, PyData.canLay0, ih.1], by simp [PyData.depthAll, PyData.depth, ih.2]⟩
theorem lay_ents (es : List (List Nat × List Nat)) : PyData.canLayAll0 (es.map dE) = true ∧ PyData.depthAll (es.map dE) ≤ 2 := by
  induction es with
  | nil => exact ⟨by simp [PyData.canLayAll0], by simp [PyData.depthAll]⟩
  | cons e es ih =>
    obtain ⟨h1, h2⟩ := lay_gs e.1
    obtain ⟨h3, h4⟩ := lay_gs e.2
    refine ⟨?_, ?_⟩
    · simp [PyData.canLayAll0, PyData.canLay0, dE, h1, h3, ih.1]
    · have := ih.2
      simp [PyData.depthAll, PyData.depth, dE, h2, h4]
      omega
theorem ne_nil {t u : Bool} {ys : List D} {es : List (List Nat × List Nat)} (h : Paired EntR ys es) (q : Q (.bl (!es.isEmpty))) : wCmp .ne (.lst t ys) (.lst u []) Q := by
  obtain ⟨h1, h2⟩ := lay_ents es
  refine ⟨.list (es.map dE), .list [], ?_, rfl, ?_, rfl, ?_⟩
  · show (D.datL (D.dat 59) ys).map PyData.list = _
    rw [dat_ents h]
    rfl
  · show (PyData.canLay0 (.list (es.map dE)) && decide (PyData.depth (.list (es.map dE)) ≤ 64)) = true
    simp only [PyData.canLay0, PyData.depth, h1, Bool.true_and]
    exact decide_eq_true (by omega)
  · have : PyData.eqv (.list (es.map dE)) (.list []) = es.isEmpty := by
      cases es with
      | nil => rfl
      | cons e es => rfl
    rw [this]
    exact q
theorem pair_snoc {ys : List D} {es : List (List Nat × List Nat)} {e : List Nat × List Nat} (h : Paired EntR ys (es ++ [e])) : ∃ y, ys[ys.length - 1]? = some y ∧ EntR y e ∧ Paired EntR ys.dropLast es := by
  have hl := Paired.len h
  rw [List.length_append, List.length_singleton] at hl
  have h1 : (es ++ [e])[ys.length - 1]? = some e := by rw [show ys.length - 1 = es.length by omega]; simp
  obtain ⟨y, h2, h3⟩ := Paired.at2 h h1
  refine ⟨y, h2, h3, ?_⟩
  have h4 := Paired.tk es.length h
  rw [List.take_left] at h4
  rw [List.dropLast_eq_take, show ys.length - 1 = es.length by omega]
  exact h4
/-- what the loop over those left has pushed -/
structure Kids (rs : List (List Int)) (x : Int) (k : Nat) (e : List Nat × List Nat) (i : Nat) (ks : List (List Nat × List Nat)) : Prop where
  ent : ∀ c ∈ ks, Ent rs x c
  w : wt ks + 2 ^ (e.2.length - i) ≤ 2 ^ e.2.length
  cmp : ∀ a g s, a < i → e.2[a]? = some g → s.Sublist (e.2.drop (a + 1)) → Cr rs x (g :: s) → e.1.length + 1 + s.length = k → ∃ c ∈ ks, Live rs x k c
theorem Kids.zero {rs : List (List Int)} {x : Int} {k : Nat} {e : List Nat × List Nat} : Kids rs x k e 0 [] := by
  refine ⟨fun c h => (List.not_mem_nil h).elim, ?_, fun a g s h => by omega⟩
  show 0 + 2 ^ (e.2.length - 0) ≤ _
  rw [Nat.zero_add, Nat.sub_zero]
  exact Nat.le_refl _
theorem pow_half {n i : Nat} (h : i < n) : 2 ^ (n - i) = 2 * 2 ^ (n - (i + 1)) := by
  rw [show n - i = n - (i + 1) + 1 by omega, Nat.pow_succ]
  omega
theorem Kids.skip {rs : List (List Int)} {x : Int} {k : Nat} {e : List Nat × List Nat} {i : Nat} {ks : List (List Nat × List Nat)} (h : Kids rs x k e i ks) (hi : i < e.2.length) (no : e.1.length + e.2.length < k + i) : Kids rs x k e (i + 1) ks := by
  refine ⟨h.ent, ?_, fun a g s ha hg hs hc hk => ?_⟩
  · have := h.w
    have := pow_half hi
    omega
  · by_cases ea : a < i
    · exact h.cmp a g s ea hg hs hc hk
    · have : a = i := by omega
      subst this
      have := hs.length_le
      rw [List.length_drop] at this
      omega
def kid (rs : List (List Int)) (x : Int) (e : List Nat × List Nat) (i g : Nat) : List Nat × List Nat := (e.1 ++ [g], (e.2.drop (i + 1)).filter fun l => decide (col rs g l = x))
theorem Kids.push {rs : List (List Int)} {x : Int} {k : Nat} {e : List Nat × List Nat} {i g : Nat} {ks : List (List Nat × List Nat)} (he : Ent rs x e) (h : Kids rs x k e i ks) (hg : e.2[i]? = some g) : Kids rs x k e (i + 1) (ks ++ [kid rs x e i g]) := by
  have hi : i < e.2.length := (List.getElem?_eq_some_iff.mp hg).1
  have ei : e.2[i] = g := (List.getElem?_eq_some_iff.mp hg).2
  have gm : g ∈ e.2 := List.mem_of_getElem? hg
  have later : ∀ b ∈ e.2.drop (i + 1), g < b ∧ b ∈ e.2 := fun b hb => by
    obtain ⟨j, hj, rfl⟩ := List.mem_drop_iff_getElem.mp hb
    have := (List.pairwise_iff_getElem.mp he.lp) i (j + (i + 1)) hi (by omega) (by omega)
    rw [ei] at this
    have e2 : e.2[i + 1 + j] = e.2[j + (i + 1)] := by congr 1; omega
    rw [e2]
    exact ⟨this, List.getElem_mem _⟩
  refine ⟨fun c hc => ?_, ?_, fun a g' s ha hg' hs hcr hk => ?_⟩
  · rcases List.mem_append.mp hc with hc | hc
    · exact h.ent c hc
    · rw [List.mem_singleton.mp hc]
      refine ⟨⟨?_, fun a ha => ?_⟩, ?_, fun a ha => ?_, fun a ha b hb => ?_⟩
      · refine List.pairwise_append.mpr ⟨he.c.p, List.pairwise_singleton _ _, fun a ha b hb => ?_⟩
        rw [List.mem_singleton.mp hb]
        exact he.cl a ha g gm
      · rcases List.mem_append.mp ha with ha | ha
        · exact he.c.all a ha
        · rw [List.mem_singleton.mp ha]; exact he.all g gm
      · exact (he.lp.sublist (List.drop_sublist _ _)).sublist List.filter_sublist
      · exact he.all a (later a (List.mem_filter.mp ha).1).2
      · obtain ⟨hb1, hb2⟩ := List.mem_filter.mp hb
        obtain ⟨hb3, hb4⟩ := later b hb1
        rcases List.mem_append.mp ha with ha | ha
        · exact he.cl a ha b hb4
        · rw [List.mem_singleton.mp ha]
          refine ⟨hb3, ?_⟩
          rw [col_comm]
          exact of_decide_eq_true hb2
  · rw [wt_app, wt_one]
    have h1 : (kid rs x e i g).2.length ≤ e.2.length - (i + 1) := Nat.le_trans (List.length_filter_le _ _) (by rw [List.length_drop]; exact Nat.le_refl _)
    have h2 := Nat.pow_le_pow_right (show 2 > 0 by decide) h1
    have := h.w
    have := pow_half hi
    omega
  · by_cases ea : a < i
    · obtain ⟨c, hc, hl⟩ := h.cmp a g' s ea hg' hs hcr hk
      exact ⟨c, List.mem_append_left _ hc, hl⟩
    · have : a = i := by omega
      subst this
      rw [hg] at hg'
      cases hg'
      obtain ⟨p1, p2⟩ := List.pairwise_cons.mp hcr.p
      refine ⟨_, List.mem_append_right _ List.mem_cons_self, s, ?_, ⟨p2, fun b hb => hcr.all b (List.mem_cons_of_mem _ hb)⟩, ?_⟩
      · have h3 := hs.filter fun l => decide (col rs g l = x)
        rw [List.filter_eq_self.mpr fun b hb => decide_eq_true (by rw [col_comm]; exact (p1 b hb).2)] at h3
        exact h3
      · show (e.1 ++ [g]).length + s.length = k
        rw [List.length_append, List.length_singleton]
        exact hk
/-- what the stack says of all -/
structure Stk (rs : List (List Int)) (x : Int) (k : Nat) (es : List (List Nat × List Nat)) : Prop where
  ent : ∀ c ∈ es, Ent rs x c
  cmp : Has rs x k → ∃ c ∈ es, Live rs x k c
theorem Stk.pop {rs : List (List Int)} {x : Int} {k : Nat} {es ks : List (List Nat × List Nat)} {e : List Nat × List Nat} (h : Stk rs x k (es ++ [e])) (hk : Kids rs x k e e.2.length ks) (ne : e.1.length ≠ k) : Stk rs x k (es ++ ks) := by
  refine ⟨fun c hc => ?_, fun hh => ?_⟩
  · rcases List.mem_append.mp hc with hc | hc
    · exact h.ent c (List.mem_append_left _ hc)
    · exact hk.ent c hc
  · obtain ⟨c, hc, s, h1, h2, h3⟩ := h.cmp hh
    rcases List.mem_append.mp hc with hc | hc
    · exact ⟨c, List.mem_append_left _ hc, s, h1, h2, h3⟩
    · rw [List.mem_singleton.mp hc] at h1 h3
      cases s with
      | nil =>
        rw [List.length_nil] at h3
        exact absurd h3 ne
      | cons g s =>
        obtain ⟨a, ha, hs⟩ := sub_head h1
        rw [List.length_cons] at h3
        obtain ⟨c, hc, hl⟩ := hk.cmp a g s (List.getElem?_eq_some_iff.mp ha).1 ha hs h2 (by omega)
        exact ⟨c, List.mem_append_right _ hc, hl⟩
theorem ent_len {rs : List (List Int)} {x : Int} {e : List Nat × List Nat} (h : Ent rs x e) : e.1.length ≤ rs.length ∧ e.2.length ≤ rs.length := ⟨h.c.asc.len, (show Asc rs.length e.2 from ⟨h.lp, h.all⟩).len⟩
theorem gs_cutf {g : List Nat} {i : Nat} : cutA (gs g) (some (i : Int)) none = gs (g.drop i) := by
  rw [cut_from]
  unfold gs
  rw [List.map_drop]
theorem owhl_inv {tt : PEnv → List Nat → (Bool → Prop) → Prop} {bd : PEnv → List Nat → OEnds → Prop} {E : OEnds} (I : Nat → PEnv → List Nat → Prop)
    (h : ∀ m δ ow, I m δ ow → ∀ K : PEnv → List Nat → Prop, (∀ m' δ' ow', m' < m → I m' δ' ow' → K δ' ow') → tt δ ow fun t => match t with
      | true => bd δ ow { nx := K, ct := K, bk := E.nx, rt := E.rt }
      | false => E.nx δ ow) : ∀ (f m : Nat) (δ : PEnv) (ow : List Nat), m < f → I m δ ow → woWhl tt bd f δ ow E
  | 0, m, δ, ow, hm, _ => absurd hm (Nat.not_lt_zero _)
  | f + 1, m, δ, ow, hm, hi => h m δ ow hi (fun δ2 ow2 => woWhl tt bd f δ2 ow2 E) fun m' δ' ow' h1 h2 => owhl_inv I h f m' δ' ow' (by omega) h2
theorem asc_sub : ∀ (m k : Nat) {g : List Nat}, g.Pairwise (· < ·) → (∀ a ∈ g, k ≤ a ∧ a < k + m) → g.Sublist (List.range' k m)
  | _, _, [], _, _ => List.nil_sublist _
  | 0, k, a :: g, _, h => by have := h a List.mem_cons_self; omega
  | m + 1, k, a :: g, hp, h => by
    rw [List.range'_succ]
    obtain ⟨p1, p2⟩ := List.pairwise_cons.mp hp
    by_cases e : a = k
    · subst e
      exact (asc_sub m (a + 1) p2 fun b hb => by have := p1 b hb; have := h b (List.mem_cons_of_mem _ hb); omega).cons_cons a
    · refine (asc_sub m (k + 1) hp fun b hb => ?_).cons k
      have := h b hb
      have ha := h a List.mem_cons_self
      rcases List.mem_cons.mp hb with z | z
      · subst z; omega
      · have := p1 b z; omega
theorem Asc.sub {n : Nat} {g : List Nat} (h : Asc n g) : g.Sublist (List.range n) := by
  rw [List.range_eq_range']
  exact asc_sub n 0 h.lt fun a ha => ⟨Nat.zero_le _, by have := h.all a ha; omega⟩
theorem gs_filt {as : D → (PEnv → Prop) → Prop} {tt : PEnv → (Bool → Prop) → Prop} {el : PEnv → (D → Prop) → Prop} {R : D → Prop} (p : Nat → Bool) (l : List Nat) (hl : l.length ≤ 100000)
    (h : ∀ a : Nat, a ∈ l → ∀ (K : D → Prop) (F : Prop), (if p a = true then K (.int (a : Int)) else F) → as (.int (a : Int)) fun δ => tt δ fun b => match b with
      | true => el δ K
      | false => F) (q : R (.lst true (gs (l.filter p)))) : wLc as tt el (gs l) [] R := by
  refine lc_filt (fun y => match y with | .int i => p i.toNat | _ => false) id _ [] (fun y hy K F k => ?_) (by rw [List.length_nil, Nat.zero_add, gs_len]; exact small_line hl) ?_
  · obtain ⟨a, ha, rfl⟩ := List.mem_map.mp hy
    exact h a ha K F k
  · rw [List.reverse_nil, List.nil_append, List.map_id]
    have e : (gs l).filter (fun y => match y with | .int i => p i.toNat | _ => false) = gs (l.filter p) := by
      unfold gs
      rw [List.filter_map]
      rfl
    rw [e]
    exact q
theorem line24 : lineN = 2 ^ 24 := rfl
theorem has_ok {v : D} {c : Nat} {rs : List (List Int)} (p : PR v c rs) (w : Wf c rs) (h24 : rs.length ≤ 24) {x : Int} {k : Nat} (q : ∀ b : Bool, (b = true ↔ Has rs x k) → Q (.bl b)) : W (d + 2) 16 [v, .int x, .int (k : Int)] Q := by
  refine wclO_own (om := ([3], [])) (F := ⟨3, 10, b_has_crowd⟩) rfl rfl rfl rfl ?_
  unfold b_has_crowd startD
  have p0 := p
  obtain ⟨t, ds, rfl, pr⟩ := p
  have e1 : atA [D.int (c : Int), .lst t ds] 1 = some (.lst t ds) := rfl
  rw [wo_step]
  simp only [WR, WO, WL, isBad, dvD, mapAtD, anyBT, Tgs.len, List.map_cons, List.map_nil, List.replicate, List.length_cons, List.length_nil, List.cons_append, List.nil_append, List.append_nil, Option.some.injEq, exists_eq_left', exists_eq_left, Option.map_some, Option.bind_some, wEq_int, wNe_int, wEq_bl, wNe_bl, D.bl.injEq, D.int.injEq, wipeD, and_true, true_and, Int.zero_add, Int.toNat_natCast, Bool.or_false, Bool.or_true, Bool.false_or, Bool.true_or, Bool.not_true, Bool.not_false, WRS, woS, woX, woAsg, woE, wO0, wO1, woG, woGs, woPop, wOwn, wOwnD, woT, keepE, keepT, keepI, dropO, hasE, hasA, hasT, hasI, freshE, freshA, deepE, isRng, List.filter_cons, List.filter_nil, List.contains_cons, List.contains_nil, nat_beq, Bool.and_true, Bool.true_and, Bool.and_false, Bool.false_and, Bool.false_eq_true, if_true, if_false, reduceIte, Nat.reduceBEq, Nat.reduceLT, Nat.reduceAdd, reduceCtorEq, Bool.not_eq_true, e1, Paired.len pr]
  by_cases big : rs.length < k
  · rw [decide_eq_true (show (rs.length : Int) < (k : Int) by omega)]
    dsimp only
    rw [wo_step]
    simp only [WR, WO, WL, isBad, dvD, mapAtD, anyBT, Tgs.len, List.map_cons, List.map_nil, List.replicate, List.length_cons, List.length_nil, List.cons_append, List.nil_append, List.append_nil, Option.some.injEq, exists_eq_left', exists_eq_left, Option.map_some, Option.bind_some, wEq_int, wNe_int, wEq_bl, wNe_bl, D.bl.injEq, D.int.injEq, wipeD, and_true, true_and, Int.zero_add, Int.toNat_natCast, Bool.or_false, Bool.or_true, Bool.false_or, Bool.true_or, Bool.not_true, Bool.not_false, WRS, woS, woX, woAsg, woE, wO0, wO1, woG, woGs, woPop, wOwn, wOwnD, woT, keepE, keepT, keepI, dropO, hasE, hasA, hasT, hasI, freshE, freshA, deepE, isRng, List.filter_cons, List.filter_nil, List.contains_cons, List.contains_nil, nat_beq, Bool.and_true, Bool.true_and, Bool.and_false, Bool.false_and, Bool.false_eq_true, if_true, if_false, reduceIte, Nat.reduceBEq, Nat.reduceLT, Nat.reduceAdd, reduceCtorEq, Bool.not_eq_true]
    refine q false ⟨fun h => absurd h (by decide), ?_⟩
    rintro ⟨g, h1, h2⟩
    have := h1.asc.len
    omega
  · rw [decide_eq_false (show ¬ (rs.length : Int) < (k : Int) by omega)]
    dsimp only
    rw [wo_nil]
    dsimp only
    rw [wo_step]
    simp only [WR, WO, WL, isBad, dvD, mapAtD, anyBT, Tgs.len, List.map_cons, List.map_nil, List.replicate, List.length_cons, List.length_nil, List.cons_append, List.nil_append, List.append_nil, Option.some.injEq, exists_eq_left', exists_eq_left, Option.map_some, Option.bind_some, wEq_int, wNe_int, wEq_bl, wNe_bl, D.bl.injEq, D.int.injEq, wipeD, and_true, true_and, Int.zero_add, Int.toNat_natCast, Bool.or_false, Bool.or_true, Bool.false_or, Bool.true_or, Bool.not_true, Bool.not_false, WRS, woS, woX, woAsg, woE, wO0, wO1, woG, woGs, woPop, wOwn, wOwnD, woT, keepE, keepT, keepI, dropO, hasE, hasA, hasT, hasI, freshE, freshA, deepE, isRng, List.filter_cons, List.filter_nil, List.contains_cons, List.contains_nil, nat_beq, Bool.and_true, Bool.true_and, Bool.and_false, Bool.false_and, Bool.false_eq_true, if_true, if_false, reduceIte, Nat.reduceBEq, Nat.reduceLT, Nat.reduceAdd, reduceCtorEq, Bool.not_eq_true, e1, Paired.len pr]
    refine ⟨small_line (by decide), rng_n (by omega), small_line (by rw [List.length_map, List.length_range]; omega), small_line (by decide), small_line (by decide), _, rfl, ?_⟩
    rw [ite_self, List.filter_nil]
    rw [wo_step]
    refine ⟨16777217, by show 16777217 ≤ 100000000; omega, ?_⟩
    refine owhl_inv (fun m δ ow => ow = [3] ∧ ∃ es ys r4 r5 r6 r7 r8 r9, wt es = m ∧ m ≤ 16777216 ∧ Stk rs x k es ∧ Paired EntR ys es ∧ δ = [some (.tup [.int (c : Int), .lst t ds]), some (.int x), some (.int (k : Int)), some (.lst true ys), r4, r5, r6, r7, r8, r9]) ?_ 16777217 (2 ^ rs.length) _ _ ?_ ⟨rfl, [([], List.range rs.length)], _, _, _, _, _, _, _, ?_, ?_, ?_, .cons ⟨true, true, rfl⟩ .nil, rfl⟩
    · rintro m δ ow ⟨rfl, es, ys, r4, r5, r6, r7, r8, r9, hm, hm2, hs, hp, rfl⟩ K hK
      simp only [WR, WO, WL, isBad, dvD, mapAtD, anyBT, Tgs.len, List.map_cons, List.map_nil, List.replicate, List.length_cons, List.length_nil, List.cons_append, List.nil_append, List.append_nil, Option.some.injEq, exists_eq_left', exists_eq_left, Option.map_some, Option.bind_some, wEq_int, wNe_int, wEq_bl, wNe_bl, D.bl.injEq, D.int.injEq, wipeD, and_true, true_and, Int.zero_add, Int.toNat_natCast, Bool.or_false, Bool.or_true, Bool.false_or, Bool.true_or, Bool.not_true, Bool.not_false, WRS, woS, woX, woAsg, woE, wO0, wO1, woG, woGs, woPop, wOwn, wOwnD, woT, keepE, keepT, keepI, dropO, hasE, hasA, hasT, hasI, freshE, freshA, deepE, isRng, List.filter_cons, List.filter_nil, List.contains_cons, List.contains_nil, nat_beq, Bool.and_true, Bool.true_and, Bool.and_false, Bool.false_and, Bool.false_eq_true, if_true, if_false, reduceIte, Nat.reduceBEq, Nat.reduceLT, Nat.reduceAdd, reduceCtorEq, Bool.not_eq_true]
      refine ⟨small_line (by decide), ne_nil hp ⟨_, rfl, ?_⟩⟩
      rcases List.eq_nil_or_concat es with rfl | ⟨es', e, rfl⟩
      · dsimp only [List.isEmpty, Bool.not_true]
        rw [wo_step]
        simp only [WR, WO, WL, isBad, dvD, mapAtD, anyBT, Tgs.len, List.map_cons, List.map_nil, List.replicate, List.length_cons, List.length_nil, List.cons_append, List.nil_append, List.append_nil, Option.some.injEq, exists_eq_left', exists_eq_left, Option.map_some, Option.bind_some, wEq_int, wNe_int, wEq_bl, wNe_bl, D.bl.injEq, D.int.injEq, wipeD, and_true, true_and, Int.zero_add, Int.toNat_natCast, Bool.or_false, Bool.or_true, Bool.false_or, Bool.true_or, Bool.not_true, Bool.not_false, WRS, woS, woX, woAsg, woE, wO0, wO1, woG, woGs, woPop, wOwn, wOwnD, woT, keepE, keepT, keepI, dropO, hasE, hasA, hasT, hasI, freshE, freshA, deepE, isRng, List.filter_cons, List.filter_nil, List.contains_cons, List.contains_nil, nat_beq, Bool.and_true, Bool.true_and, Bool.and_false, Bool.false_and, Bool.false_eq_true, if_true, if_false, reduceIte, Nat.reduceBEq, Nat.reduceLT, Nat.reduceAdd, reduceCtorEq, Bool.not_eq_true]
        refine q false ⟨fun h => absurd h (by decide), fun hh => ?_⟩
        obtain ⟨c, hc, _⟩ := hs.cmp hh
        cases hc
      · rw [List.concat_eq_append] at hs hp hm
        have : (List.concat es' e).isEmpty = false := by simp
        rw [this]
        obtain ⟨y, y1, ⟨t1, t2, rfl⟩, y2⟩ := pair_snoc hp
        rw [wo_step]
        simp only [WR, WO, WL, isBad, dvD, mapAtD, anyBT, Tgs.len, List.map_cons, List.map_nil, List.replicate, List.length_cons, List.length_nil, List.cons_append, List.nil_append, List.append_nil, Option.some.injEq, exists_eq_left', exists_eq_left, Option.map_some, Option.bind_some, wEq_int, wNe_int, wEq_bl, wNe_bl, D.bl.injEq, D.int.injEq, wipeD, and_true, true_and, Int.zero_add, Int.toNat_natCast, Bool.or_false, Bool.or_true, Bool.false_or, Bool.true_or, Bool.not_true, Bool.not_false, WRS, woS, woX, woAsg, woE, wO0, wO1, woG, woGs, woPop, wOwn, wOwnD, woT, keepE, keepT, keepI, dropO, hasE, hasA, hasT, hasI, freshE, freshA, deepE, isRng, List.filter_cons, List.filter_nil, List.contains_cons, List.contains_nil, nat_beq, Bool.and_true, Bool.true_and, Bool.and_false, Bool.false_and, Bool.false_eq_true, if_true, if_false, reduceIte, Nat.reduceBEq, Nat.reduceLT, Nat.reduceAdd, reduceCtorEq, Bool.not_eq_true, y1]
        refine ⟨true, ys, _, rfl, y1, _, rfl, rfl, ?_⟩
        simp only [WR, WO, WL, isBad, dvD, mapAtD, anyBT, Tgs.len, List.map_cons, List.map_nil, List.replicate, List.length_cons, List.length_nil, List.cons_append, List.nil_append, List.append_nil, Option.some.injEq, exists_eq_left', exists_eq_left, Option.map_some, Option.bind_some, wEq_int, wNe_int, wEq_bl, wNe_bl, D.bl.injEq, D.int.injEq, wipeD, and_true, true_and, Int.zero_add, Int.toNat_natCast, Bool.or_false, Bool.or_true, Bool.false_or, Bool.true_or, Bool.not_true, Bool.not_false, WRS, woS, woX, woAsg, woE, wO0, wO1, woG, woGs, woPop, wOwn, wOwnD, woT, keepE, keepT, keepI, dropO, hasE, hasA, hasT, hasI, freshE, freshA, deepE, isRng, List.filter_cons, List.filter_nil, List.contains_cons, List.contains_nil, nat_beq, Bool.and_true, Bool.true_and, Bool.and_false, Bool.false_and, Bool.false_eq_true, if_true, if_false, reduceIte, Nat.reduceBEq, Nat.reduceLT, Nat.reduceAdd, reduceCtorEq, Bool.not_eq_true]
        rw [wo_step]
        simp only [WR, WO, WL, isBad, dvD, mapAtD, anyBT, Tgs.len, List.map_cons, List.map_nil, List.replicate, List.length_cons, List.length_nil, List.cons_append, List.nil_append, List.append_nil, Option.some.injEq, exists_eq_left', exists_eq_left, Option.map_some, Option.bind_some, wEq_int, wNe_int, wEq_bl, wNe_bl, D.bl.injEq, D.int.injEq, wipeD, and_true, true_and, Int.zero_add, Int.toNat_natCast, Bool.or_false, Bool.or_true, Bool.false_or, Bool.true_or, Bool.not_true, Bool.not_false, WRS, woS, woX, woAsg, woE, wO0, wO1, woG, woGs, woPop, wOwn, wOwnD, woT, keepE, keepT, keepI, dropO, hasE, hasA, hasT, hasI, freshE, freshA, deepE, isRng, List.filter_cons, List.filter_nil, List.contains_cons, List.contains_nil, nat_beq, Bool.and_true, Bool.true_and, Bool.and_false, Bool.false_and, Bool.false_eq_true, if_true, if_false, reduceIte, Nat.reduceBEq, Nat.reduceLT, Nat.reduceAdd, reduceCtorEq, Bool.not_eq_true, gs_len]
        have he := hs.ent e (List.mem_append_right _ List.mem_cons_self)
        by_cases ek : e.1.length = k
        · rw [decide_eq_true (show (e.1.length : Int) = (k : Int) by omega)]
          dsimp only
          rw [wo_step]
          simp only [WR, WO, WL, isBad, dvD, mapAtD, anyBT, Tgs.len, List.map_cons, List.map_nil, List.replicate, List.length_cons, List.length_nil, List.cons_append, List.nil_append, List.append_nil, Option.some.injEq, exists_eq_left', exists_eq_left, Option.map_some, Option.bind_some, wEq_int, wNe_int, wEq_bl, wNe_bl, D.bl.injEq, D.int.injEq, wipeD, and_true, true_and, Int.zero_add, Int.toNat_natCast, Bool.or_false, Bool.or_true, Bool.false_or, Bool.true_or, Bool.not_true, Bool.not_false, WRS, woS, woX, woAsg, woE, wO0, wO1, woG, woGs, woPop, wOwn, wOwnD, woT, keepE, keepT, keepI, dropO, hasE, hasA, hasT, hasI, freshE, freshA, deepE, isRng, List.filter_cons, List.filter_nil, List.contains_cons, List.contains_nil, nat_beq, Bool.and_true, Bool.true_and, Bool.and_false, Bool.false_and, Bool.false_eq_true, if_true, if_false, reduceIte, Nat.reduceBEq, Nat.reduceLT, Nat.reduceAdd, reduceCtorEq, Bool.not_eq_true]
          exact q true ⟨fun _ => ⟨e.1, he.c, ek⟩, fun _ => rfl⟩
        · rw [decide_eq_false (show ¬ (e.1.length : Int) = (k : Int) by omega)]
          dsimp only
          rw [wo_nil]
          dsimp only
          rw [wo_step]
          simp only [WR, WO, WL, isBad, dvD, mapAtD, anyBT, Tgs.len, List.map_cons, List.map_nil, List.replicate, List.length_cons, List.length_nil, List.cons_append, List.nil_append, List.append_nil, Option.some.injEq, exists_eq_left', exists_eq_left, Option.map_some, Option.bind_some, wEq_int, wNe_int, wEq_bl, wNe_bl, D.bl.injEq, D.int.injEq, wipeD, and_true, true_and, Int.zero_add, Int.toNat_natCast, Bool.or_false, Bool.or_true, Bool.false_or, Bool.true_or, Bool.not_true, Bool.not_false, WRS, woS, woX, woAsg, woE, wO0, wO1, woG, woGs, woPop, wOwn, wOwnD, woT, keepE, keepT, keepI, dropO, hasE, hasA, hasT, hasI, freshE, freshA, deepE, isRng, List.filter_cons, List.filter_nil, List.contains_cons, List.contains_nil, nat_beq, Bool.and_true, Bool.true_and, Bool.and_false, Bool.false_and, Bool.false_eq_true, if_true, if_false, reduceIte, Nat.reduceBEq, Nat.reduceLT, Nat.reduceAdd, reduceCtorEq, Bool.not_eq_true]
          obtain ⟨l1, l2⟩ := ent_len he
          refine ⟨by rw [enum_len, gs_len]; exact small_LF (by omega), ?_⟩
          refine ofor_inv (fun i δ ow => ow = [3] ∧ ∃ ks ys r6 r7 r8 r9, Kids rs x k e i ks ∧ Paired EntR ys (es' ++ ks) ∧ δ = [some (.tup [.int (c : Int), .lst t ds]), some (.int x), some (.int (k : Int)), some (.lst true ys), some (.lst t1 (gs e.1)), some (.lst t2 (gs e.2)), r6, r7, r8, r9]) (enumD (gs e.2) 0) ?_ ?_ (enumD (gs e.2) 0) 0 _ _ (fun j => by rw [Nat.zero_add]) (by omega) ⟨rfl, [], _, _, _, _, _, Kids.zero, by rw [List.append_nil]; exact y2, rfl⟩
          · rintro i z δ ow hz ⟨rfl, ks, ys, r6, r7, r8, r9, hk, hp, rfl⟩ K2 hK2
            rw [enum_get, gs_get] at hz
            cases ei : e.2[i]? with
            | none => rw [ei] at hz; cases hz
            | some g =>
              rw [ei] at hz
              have hz := Option.some.inj hz
              subst hz
              have hi : i < e.2.length := (List.getElem?_eq_some_iff.mp ei).1
              simp only [WR, WO, WL, isBad, dvD, mapAtD, anyBT, Tgs.len, List.map_cons, List.map_nil, List.replicate, List.length_cons, List.length_nil, List.cons_append, List.nil_append, List.append_nil, Option.some.injEq, exists_eq_left', exists_eq_left, Option.map_some, Option.bind_some, wEq_int, wNe_int, wEq_bl, wNe_bl, D.bl.injEq, D.int.injEq, wipeD, and_true, true_and, Int.zero_add, Int.toNat_natCast, Bool.or_false, Bool.or_true, Bool.false_or, Bool.true_or, Bool.not_true, Bool.not_false, WRS, woS, woX, woAsg, woE, wO0, wO1, woG, woGs, woPop, wOwn, wOwnD, woT, keepE, keepT, keepI, dropO, hasE, hasA, hasT, hasI, freshE, freshA, deepE, isRng, List.filter_cons, List.filter_nil, List.contains_cons, List.contains_nil, nat_beq, Bool.and_true, Bool.true_and, Bool.and_false, Bool.false_and, Bool.false_eq_true, if_true, if_false, reduceIte, Nat.reduceBEq, Nat.reduceLT, Nat.reduceAdd, reduceCtorEq, Bool.not_eq_true]
              rw [wo_step]
              simp only [WR, WO, WL, isBad, dvD, mapAtD, anyBT, Tgs.len, List.map_cons, List.map_nil, List.replicate, List.length_cons, List.length_nil, List.cons_append, List.nil_append, List.append_nil, Option.some.injEq, exists_eq_left', exists_eq_left, Option.map_some, Option.bind_some, wEq_int, wNe_int, wEq_bl, wNe_bl, D.bl.injEq, D.int.injEq, wipeD, and_true, true_and, Int.zero_add, Int.toNat_natCast, Bool.or_false, Bool.or_true, Bool.false_or, Bool.true_or, Bool.not_true, Bool.not_false, WRS, woS, woX, woAsg, woE, wO0, wO1, woG, woGs, woPop, wOwn, wOwnD, woT, keepE, keepT, keepI, dropO, hasE, hasA, hasT, hasI, freshE, freshA, deepE, isRng, List.filter_cons, List.filter_nil, List.contains_cons, List.contains_nil, nat_beq, Bool.and_true, Bool.true_and, Bool.and_false, Bool.false_and, Bool.false_eq_true, if_true, if_false, reduceIte, Nat.reduceBEq, Nat.reduceLT, Nat.reduceAdd, reduceCtorEq, Bool.not_eq_true, gs_len]
              by_cases room : e.1.length + e.2.length < k + i
              · rw [decide_eq_false (show ¬ (k : Int) ≤ (e.1.length : Int) + (e.2.length : Int) - (i : Int) by omega)]
                dsimp only
                rw [wo_nil]
                dsimp only
                rw [wo_nil]
                exact hK2 _ _ ⟨rfl, ks, _, _, _, _, _, hk.skip hi room, hp, rfl⟩
              · rw [decide_eq_true (show (k : Int) ≤ (e.1.length : Int) + (e.2.length : Int) - (i : Int) by omega)]
                dsimp only
                rw [wo_step]
                have ec : ((i : Int) + 1) = ((i + 1 : Nat) : Int) := rfl
                simp only [WR, WO, WL, isBad, dvD, mapAtD, anyBT, Tgs.len, List.map_cons, List.map_nil, List.replicate, List.length_cons, List.length_nil, List.cons_append, List.nil_append, List.append_nil, Option.some.injEq, exists_eq_left', exists_eq_left, Option.map_some, Option.bind_some, wEq_int, wNe_int, wEq_bl, wNe_bl, D.bl.injEq, D.int.injEq, wipeD, and_true, true_and, Int.zero_add, Int.toNat_natCast, Bool.or_false, Bool.or_true, Bool.false_or, Bool.true_or, Bool.not_true, Bool.not_false, WRS, woS, woX, woAsg, woE, wO0, wO1, woG, woGs, woPop, wOwn, wOwnD, woT, keepE, keepT, keepI, dropO, hasE, hasA, hasT, hasI, freshE, freshA, deepE, isRng, List.filter_cons, List.filter_nil, List.contains_cons, List.contains_nil, nat_beq, Bool.and_true, Bool.true_and, Bool.and_false, Bool.false_and, Bool.false_eq_true, if_true, if_false, reduceIte, Nat.reduceBEq, Nat.reduceLT, Nat.reduceAdd, reduceCtorEq, Bool.not_eq_true, ec, gs_cutf]
                have gm := he.all g (List.mem_of_getElem? ei)
                refine ⟨by rw [gs_len, List.length_drop]; exact small_LF (by omega), gs_filt (fun l => decide (col rs g l = x)) (e.2.drop (i + 1)) (by rw [List.length_drop]; omega) (fun l hl K F k => ?_) ?_⟩
                · have lm : g < l ∧ l < rs.length := by
                    obtain ⟨j, hj, rfl⟩ := List.mem_drop_iff_getElem.mp hl
                    have := (List.pairwise_iff_getElem.mp he.lp) i (i + 1 + j) hi (by omega) (by omega)
                    rw [(List.getElem?_eq_some_iff.mp ei).2] at this
                    exact ⟨this, he.all _ (List.getElem_mem _)⟩
                  simp only [WR, WO, WL, isBad, dvD, mapAtD, anyBT, Tgs.len, List.map_cons, List.map_nil, List.replicate, List.length_cons, List.length_nil, List.cons_append, List.nil_append, List.append_nil, Option.some.injEq, exists_eq_left', exists_eq_left, Option.map_some, Option.bind_some, wEq_int, wNe_int, wEq_bl, wNe_bl, D.bl.injEq, D.int.injEq, wipeD, and_true, true_and, Int.zero_add, Int.toNat_natCast, Bool.or_false, Bool.or_true, Bool.false_or, Bool.true_or, Bool.not_true, Bool.not_false, WRS]
                  refine colour_there_ok p0 w gm lm.2 (by omega) ?_
                  simp only [WR, WO, WL, isBad, dvD, mapAtD, anyBT, Tgs.len, List.map_cons, List.map_nil, List.replicate, List.length_cons, List.length_nil, List.cons_append, List.nil_append, List.append_nil, Option.some.injEq, exists_eq_left', exists_eq_left, Option.map_some, Option.bind_some, wEq_int, wNe_int, wEq_bl, wNe_bl, D.bl.injEq, D.int.injEq, wipeD, and_true, true_and, Int.zero_add, Int.toNat_natCast, Bool.or_false, Bool.or_true, Bool.false_or, Bool.true_or, Bool.not_true, Bool.not_false, WRS]
                  by_cases f : col rs g l = x
                  · rw [decide_eq_true f] at k ⊢
                    exact k
                  · rw [decide_eq_false f] at k ⊢
                    exact k
                · rw [ite_self, wo_step]
                  simp only [WR, WO, WL, isBad, dvD, mapAtD, anyBT, Tgs.len, List.map_cons, List.map_nil, List.replicate, List.length_cons, List.length_nil, List.cons_append, List.nil_append, List.append_nil, Option.some.injEq, exists_eq_left', exists_eq_left, Option.map_some, Option.bind_some, wEq_int, wNe_int, wEq_bl, wNe_bl, D.bl.injEq, D.int.injEq, wipeD, and_true, true_and, Int.zero_add, Int.toNat_natCast, Bool.or_false, Bool.or_true, Bool.false_or, Bool.true_or, Bool.not_true, Bool.not_false, WRS, woS, woX, woAsg, woE, wO0, wO1, woG, woGs, woPop, wOwn, wOwnD, woT, keepE, keepT, keepI, dropO, hasE, hasA, hasT, hasI, freshE, freshA, deepE, isRng, List.filter_cons, List.filter_nil, List.contains_cons, List.contains_nil, nat_beq, Bool.and_true, Bool.true_and, Bool.and_false, Bool.false_and, Bool.false_eq_true, if_true, if_false, reduceIte, Nat.reduceBEq, Nat.reduceLT, Nat.reduceAdd, reduceCtorEq, Bool.not_eq_true, wOA]
                  simp only [keepD, D.noL, D.noLs, if_true, if_false, reduceIte, Bool.true_and, Bool.false_and, Bool.false_eq_true, ite_self]
                  simp only [WR, WO, WL, isBad, dvD, mapAtD, anyBT, Tgs.len, List.map_cons, List.map_nil, List.replicate, List.length_cons, List.length_nil, List.cons_append, List.nil_append, List.append_nil, Option.some.injEq, exists_eq_left', exists_eq_left, Option.map_some, Option.bind_some, wEq_int, wNe_int, wEq_bl, wNe_bl, D.bl.injEq, D.int.injEq, wipeD, and_true, true_and, Int.zero_add, Int.toNat_natCast, Bool.or_false, Bool.or_true, Bool.false_or, Bool.true_or, Bool.not_true, Bool.not_false, WRS, woS, woX, woAsg, woE, wO0, wO1, woG, woGs, woPop, wOwn, wOwnD, woT, keepE, keepT, keepI, dropO, hasE, hasA, hasT, hasI, freshE, freshA, deepE, isRng, List.filter_cons, List.filter_nil, List.contains_cons, List.contains_nil, nat_beq, Bool.and_true, Bool.true_and, Bool.and_false, Bool.false_and, Bool.false_eq_true, if_true, if_false, reduceIte, Nat.reduceBEq, Nat.reduceLT, Nat.reduceAdd, reduceCtorEq, Bool.not_eq_true]
                  have w1 := hk.w
                  have w2 := pow_half hi
                  have w3 := Nat.one_le_two_pow (n := e.2.length - (i + 1))
                  have w4 := wt_len (es' ++ ks)
                  have w5 := Paired.len hp
                  rw [wt_app] at w4
                  rw [wt_app, wt_one] at hm
                  refine ⟨small_line (by decide), small_line (by rw [gs_len]; omega), small_line (by decide), true, ys, rfl, by show ys.length < 16777216; omega, ?_⟩
                  rw [wo_nil]
                  dsimp only
                  rw [wo_nil]
                  refine hK2 _ _ ⟨rfl, ks ++ [kid rs x e i g], _, _, _, _, _, hk.push he ei, ?_, rfl⟩
                  rw [← List.append_assoc]
                  refine Paired.app hp (.cons ⟨true, true, ?_⟩ .nil)
                  unfold kid gs
                  rw [List.map_append]
                  rfl
          · rintro δ ow ⟨rfl, ks, ys, r6, r7, r8, r9, hk, hp2, rfl⟩
            rw [enum_len, gs_len] at hk
            dsimp only
            rw [wo_nil]
            have hw := hk.w
            rw [Nat.sub_self, Nat.pow_zero] at hw
            rw [wt_app, wt_one] at hm
            refine hK (wt (es' ++ ks)) _ _ (by rw [wt_app]; omega) ⟨rfl, es' ++ ks, ys, _, _, _, _, _, _, rfl, by rw [wt_app]; omega, hs.pop hk ek, hp2, rfl⟩
    · have := Nat.pow_le_pow_right (show 2 > 0 by decide) h24
      omega
    · rw [wt_one, List.length_range]
    · have := Nat.pow_le_pow_right (show 2 > 0 by decide) h24
      omega
    · refine ⟨fun c hc => ?_, fun ⟨g, h1, h2⟩ => ⟨_, List.mem_cons_self, g, ?_, h1, ?_⟩⟩
      · rw [List.mem_singleton.mp hc]
        exact ⟨⟨.nil, fun a ha => (List.not_mem_nil ha).elim⟩, List.pairwise_lt_range, fun a ha => List.mem_range.mp ha, fun a ha => (List.not_mem_nil ha).elim⟩
      · exact h1.asc.sub
      · show 0 + g.length = k
        omega
end K03
end MP
namespace MP
open PySem
/-- a comprehension over what stands for some things -/
theorem lc_pf {β : Type} {R : D → β → Prop} {as : D → (PEnv → Prop) → Prop} {tt : PEnv → (Bool → Prop) → Prop} {el : PEnv → (D → Prop) → Prop} {Q : D → Prop} (p : β → Bool) (f : β → D) : ∀ {xs : List D} {ls : List β} (acc : List D), Paired R xs ls →
    (∀ x b, R x b → b ∈ ls → ∀ (K : D → Prop) (F : Prop), (if p b = true then K (f b) else F) → as x fun δ => tt δ fun b => match b with
      | true => el δ K
      | false => F) → acc.length + xs.length ≤ lineN → Q (.lst true (acc.reverse ++ (ls.filter p).map f)) → wLc as tt el xs acc Q
  | _, _, acc, .nil, h, hl, q => ⟨by simpa using hl, by simpa using q⟩
  | x :: xs, b :: ls, acc, .cons r t, h, hl, q => by
    refine h x b r List.mem_cons_self (fun y => wLc as tt el xs (y :: acc) Q) _ ?_
    rw [List.length_cons] at hl
    by_cases c : p b = true
    · rw [if_pos c]
      refine lc_pf p f (f b :: acc) t (fun z y hz hy => h z y hz (List.mem_cons_of_mem _ hy)) (by rw [List.length_cons]; omega) ?_
      rw [List.filter_cons, if_pos c] at q
      rw [List.reverse_cons, List.append_assoc]
      exact q
    · rw [if_neg c]
      refine lc_pf p f acc t (fun z y hz hy => h z y hz (List.mem_cons_of_mem _ hy)) (by omega) ?_
      rw [List.filter_cons, if_neg c] at q
      exact q
theorem lc_pd {β : Type} {R : D → β → Prop} {as : D → (PEnv → Prop) → Prop} {tt : PEnv → (Bool → Prop) → Prop} {el : PEnv → (D → Prop) → Prop} {Q : D → Prop} (f : β → D) {xs : List D} {ls : List β} (r : Paired R xs ls)
    (h : ∀ x b, R x b → b ∈ ls → ∀ (K : D → Prop) (F : Prop), K (f b) → as x fun δ => tt δ fun b => match b with
      | true => el δ K
      | false => F) (hl : xs.length ≤ lineN) (q : Q (.lst true (ls.map f))) : wLc as tt el xs [] Q :=
  lc_pf (fun _ => true) f [] r (fun x b hr hb K F k => h x b hr hb K F (by simpa using k)) (by simpa using hl) (by rw [List.filter_eq_self.mpr (fun _ _ => rfl)]; exact q)
namespace K03
open MP.D
variable {d : Nat} {Q : D → Prop}
def Free (rs : List (List Int)) (ss : List Nat) : Prop := ∀ (i s : Nat), ss[i]? = some s → ¬ Has rs (i : Int) s
theorem gs_ints (g : List Nat) : gs g = (g.map fun i : Nat => (i : Int)).map .int := by
  unfold gs
  rw [List.map_map]
  rfl
theorem any_has {rs : List (List Int)} : ∀ {ss : List Nat} {ys : List D} (k : Nat), Paired (fun x y => ∃ i s : Nat, x = .tup [.int (i : Int), .int (s : Int)] ∧ ∃ b : Bool, y = .bl b ∧ (b = true ↔ Has rs (i : Int) s)) (enumD (gs ss) k) ys →
    ∃ bs, D.bls ys = some bs ∧ (bor bs = true ↔ ∃ i s : Nat, ss[i]? = some s ∧ Has rs ((k + i : Nat) : Int) s)
  | [], _, k, .nil => ⟨[], rfl, ⟨fun h => absurd h (by decide), fun ⟨i, s, h, _⟩ => by cases h⟩⟩
  | s :: ss, _, k, .cons ⟨i, s', e, b, e2, hb⟩ t => by
    subst e2
    obtain ⟨bs, h1, h2⟩ := any_has (ss := ss) (k + 1) t
    simp only [D.tup.injEq, List.cons.injEq, D.int.injEq, and_true] at e
    obtain ⟨e1, e2⟩ := e
    have e1 : k = i := by omega
    have e2 : s = s' := by omega
    subst e1
    subst e2
    refine ⟨b :: bs, ?_, ?_⟩
    · show (D.bls _).map (b :: ·) = _
      rw [h1]; rfl
    · show (b || bor bs) = true ↔ _
      rw [Bool.or_eq_true, hb, h2]
      constructor
      · rintro (h | ⟨i, s2, h3, h4⟩)
        · exact ⟨0, s, rfl, h⟩
        · exact ⟨i + 1, s2, by simpa using h3, by rw [show k + (i + 1) = k + 1 + i by omega]; exact h4⟩
      · rintro ⟨i, s2, h3, h4⟩
        cases i with
        | zero => cases h3; exact .inl h4
        | succ i => exact .inr ⟨i, s2, by simpa using h3, by rw [show k + 1 + i = k + (i + 1) by omega]; exact h4⟩
theorem free_there_ok {v : D} {c : Nat} {rs : List (List Int)} (p : PR v c rs) (w : Wf c rs) (h24 : rs.length ≤ 24) {ss : List Nat} (hl : ss.length ≤ 1000) {t : Bool} (q : ∀ b : Bool, (b = true ↔ Free rs ss) → Q (.bl b)) : W (d + 3) 17 [v, .lst t (gs ss)] Q := by
  refine wclO_body (F := ⟨2, 4, b_is_free_there⟩) rfl rfl rfl rfl ?_
  unfold b_is_free_there startD
  simp only [WR, WO, WL, isBad, dvD, mapAtD, anyBT, Tgs.len, List.map_cons, List.map_nil, List.replicate, List.length_cons, List.length_nil, List.cons_append, List.nil_append, List.append_nil, Option.some.injEq, exists_eq_left', exists_eq_left, Option.map_some, Option.bind_some, wEq_int, wNe_int, wEq_bl, wNe_bl, D.bl.injEq, D.int.injEq, wipeD, and_true, true_and, Int.zero_add, Int.toNat_natCast, Bool.or_false, Bool.or_true, Bool.false_or, Bool.true_or, Bool.not_true, Bool.not_false, WRS]
  refine ⟨by rw [enum_len, gs_len]; exact small_LF (by omega), lc_map (fun x y => ∃ i s : Nat, x = .tup [.int (i : Int), .int (s : Int)] ∧ ∃ b : Bool, y = .bl b ∧ (b = true ↔ Has rs (i : Int) s)) _ [] (fun y hy K F k => ?_) (by rw [List.length_nil, enum_len, gs_len]; exact small_line (by omega)) fun ys hp => ?_⟩
  · obtain ⟨i, hi⟩ := List.getElem?_of_mem hy
    rw [enum_get, gs_get] at hi
    cases e : ss[i]? with
    | none => rw [e] at hi; cases hi
    | some s =>
      rw [e] at hi
      cases hi
      simp only [WR, WO, WL, isBad, dvD, mapAtD, anyBT, Tgs.len, List.map_cons, List.map_nil, List.replicate, List.length_cons, List.length_nil, List.cons_append, List.nil_append, List.append_nil, Option.some.injEq, exists_eq_left', exists_eq_left, Option.map_some, Option.bind_some, wEq_int, wNe_int, wEq_bl, wNe_bl, D.bl.injEq, D.int.injEq, wipeD, and_true, true_and, Int.zero_add, Int.toNat_natCast, Bool.or_false, Bool.or_true, Bool.false_or, Bool.true_or, Bool.not_true, Bool.not_false, WRS]
      exact has_ok p w h24 fun b hb => k _ ⟨i, s, rfl, b, rfl, hb⟩
  · obtain ⟨bs, h1, h2⟩ := any_has 0 hp
    rw [List.reverse_nil, List.nil_append]
    refine ⟨bs, h1, q _ ?_⟩
    unfold Free
    rw [Bool.not_eq_true', ← Bool.not_eq_true, h2]
    constructor
    · intro h i s hs hh
      exact h ⟨i, s, hs, by rw [Nat.zero_add]; exact hh⟩
    · rintro h ⟨i, s, hs, hh⟩
      rw [Nat.zero_add] at hh
      exact h i s hs hh
theorem is_free_ok {v : D} {c : Nat} {rs : List (List Int)} (p : PR v c rs) (w : Wf c rs) (h24 : rs.length ≤ 24) {ss : List Nat} (hl : ss.length = c) (h1 : ∀ s ∈ ss, 1 ≤ s) {t : Bool} (q : ∀ b : Bool, (b = true ↔ Free rs ss) → Q (.bl b)) : W (d + 6) 18 [v, .lst t (gs ss)] Q := by
  refine wclO_body (F := ⟨2, 2, b_is_free⟩) rfl rfl rfl rfl ?_
  unfold b_is_free startD
  have four := w.four
  simp only [WR, WO, WL, isBad, dvD, mapAtD, anyBT, Tgs.len, List.map_cons, List.map_nil, List.replicate, List.length_cons, List.length_nil, List.cons_append, List.nil_append, List.append_nil, Option.some.injEq, exists_eq_left', exists_eq_left, Option.map_some, Option.bind_some, wEq_int, wNe_int, wEq_bl, wNe_bl, D.bl.injEq, D.int.injEq, wipeD, and_true, true_and, Int.zero_add, Int.toNat_natCast, Bool.or_false, Bool.or_true, Bool.false_or, Bool.true_or, Bool.not_true, Bool.not_false, WRS]
  refine check_party_ok p w ?_
  rw [gs_ints]
  refine check_sizes_ok (d := d + 1) p w (by rw [List.length_map]; exact hl) (fun s hs => ?_) ?_
  · obtain ⟨a, ha, rfl⟩ := List.mem_map.mp hs
    have := h1 a ha
    omega
  rw [← gs_ints]
  exact free_there_ok (d := d + 2) p w h24 (by omega) q
def lotsN : Nat → List (List Nat)
  | 0 => [[]]
  | n + 1 => lotsN n ++ (lotsN n).map fun l => l ++ [n]
def LotR (y : D) (l : List Nat) : Prop := ∃ t, y = .lst t (gs l)
theorem lots_len (n : Nat) : (lotsN n).length = 2 ^ n := by
  induction n with
  | zero => rfl
  | succ n ih =>
    show (lotsN n ++ (lotsN n).map fun l => l ++ [n]).length = _
    rw [List.length_append, List.length_map, ih, Nat.pow_succ]
    omega
theorem lots_asc : ∀ {n : Nat} {l : List Nat}, l ∈ lotsN n → Asc n l
  | 0, l, h => by
    rw [List.mem_singleton.mp h]
    exact ⟨.nil, fun a ha => (List.not_mem_nil ha).elim⟩
  | n + 1, l, h => by
    rcases List.mem_append.mp (show l ∈ lotsN n ++ (lotsN n).map fun l => l ++ [n] from h) with h | h
    · have := lots_asc h
      exact ⟨this.lt, fun a ha => Nat.lt_succ_of_lt (this.all a ha)⟩
    · obtain ⟨m, hm, rfl⟩ := List.mem_map.mp h
      have := lots_asc hm
      refine ⟨List.pairwise_append.mpr ⟨this.lt, List.pairwise_singleton _ _, fun a ha b hb => ?_⟩, fun a ha => ?_⟩
      · rw [List.mem_singleton.mp hb]; exact this.all a ha
      · rcases List.mem_append.mp ha with ha | ha
        · exact Nat.lt_succ_of_lt (this.all a ha)
        · rw [List.mem_singleton.mp ha]; exact Nat.lt_succ_self n
theorem lots_all : ∀ {n : Nat} {l : List Nat}, Asc n l → l ∈ lotsN n
  | 0, l, h => by
    cases l with
    | nil => exact List.mem_singleton.mpr rfl
    | cons a l => exact absurd (h.all a List.mem_cons_self) (Nat.not_lt_zero _)
  | n + 1, l, h => by
    refine List.mem_append.mpr ?_
    rcases List.eq_nil_or_concat l with rfl | ⟨m, a, rfl⟩
    · exact .inl (lots_all ⟨.nil, fun a ha => (List.not_mem_nil ha).elim⟩)
    · rw [List.concat_eq_append] at h ⊢
      obtain ⟨p1, _, p2⟩ := List.pairwise_append.mp h.lt
      have ha := h.all a (List.mem_append_right _ List.mem_cons_self)
      by_cases e : a = n
      · subst e
        exact .inr (List.mem_map.mpr ⟨m, lots_all ⟨p1, fun b hb => p2 b hb a List.mem_cons_self⟩, rfl⟩)
      · refine .inl (lots_all ⟨h.lt, fun b hb => ?_⟩)
        rcases List.mem_append.mp hb with hb | hb
        · have := p2 b hb a List.mem_cons_self
          omega
        · rw [List.mem_singleton.mp hb]
          omega
theorem gs_snoc (l : List Nat) (a : Nat) : gs l ++ [D.int (a : Int)] = gs (l ++ [a]) := by
  unfold gs
  rw [List.map_append]
  rfl
theorem rng_get {n i : Nat} {x : D} (h : ((List.range n).map fun i : Nat => D.int (i : Int))[i]? = some x) : i < n ∧ x = .int (i : Int) := by
  rw [List.getElem?_map] at h
  by_cases c : i < n
  · rw [List.getElem?_range c] at h
    exact ⟨c, (Option.some.inj h).symm⟩
  · rw [List.getElem?_eq_none_iff.mpr (by rw [List.length_range]; omega)] at h
    cases h
theorem rng_LF {i : Nat} (h : i ≤ 100000) : ((List.range i).map fun i : Nat => D.int (i : Int)).length < LF := by rw [List.length_map, List.length_range]; exact small_LF h
theorem lots_ok {n : Nat} (hn : n ≤ 10) (q : ∀ ys, Paired LotR ys (lotsN n) → Q (.lst true ys)) : W (d + 1) 30 [.int (n : Int)] Q := by
  refine wclO_body (F := ⟨1, 4, b__law_lots⟩) rfl rfl rfl rfl ?_
  unfold b__law_lots startD
  rw [wp_step]
  simp only [WR, WO, WL, isBad, dvD, mapAtD, anyBT, Tgs.len, List.map_cons, List.map_nil, List.replicate, List.length_cons, List.length_nil, List.cons_append, List.nil_append, List.append_nil, Option.some.injEq, exists_eq_left', exists_eq_left, Option.map_some, Option.bind_some, wEq_int, wNe_int, wEq_bl, wNe_bl, D.bl.injEq, D.int.injEq, wipeD, and_true, true_and, Int.zero_add, Int.toNat_natCast, Bool.or_false, Bool.or_true, Bool.false_or, Bool.true_or, Bool.not_true, Bool.not_false]
  refine ⟨small_line (by decide), small_line (by decide), ?_⟩
  rw [wp_step]
  simp only [WR, WO, WL, isBad, dvD, mapAtD, anyBT, Tgs.len, List.map_cons, List.map_nil, List.replicate, List.length_cons, List.length_nil, List.cons_append, List.nil_append, List.append_nil, Option.some.injEq, exists_eq_left', exists_eq_left, Option.map_some, Option.bind_some, wEq_int, wNe_int, wEq_bl, wNe_bl, D.bl.injEq, D.int.injEq, wipeD, and_true, true_and, Int.zero_add, Int.toNat_natCast, Bool.or_false, Bool.or_true, Bool.false_or, Bool.true_or, Bool.not_true, Bool.not_false]
  refine ⟨rng_n (by omega), rng_LF (by omega), ?_⟩
  refine for_inv (fun i δ => ∃ ys r2 r3, Paired LotR ys (lotsN i) ∧ δ = [some (.int (n : Int)), some (.lst true ys), r2, r3]) _ ?_ ?_ _ 0 _ (fun j => by rw [Nat.zero_add]) (by omega) ⟨_, _, _, .cons ⟨true, rfl⟩ .nil, rfl⟩
  · rintro i x δ hx ⟨ys, r2, r3, hp, rfl⟩ K hK
    obtain ⟨hi, rfl⟩ := rng_get hx
    have hl := Paired.len hp
    rw [lots_len] at hl
    have h2 := Nat.pow_le_pow_right (show 2 > 0 by decide) (show i ≤ 10 by omega)
    have h3 : (2 : Nat) ^ 10 = 1024 := by decide
    rw [wp_step]
    simp only [WR, WO, WL, isBad, dvD, mapAtD, anyBT, Tgs.len, List.map_cons, List.map_nil, List.replicate, List.length_cons, List.length_nil, List.cons_append, List.nil_append, List.append_nil, Option.some.injEq, exists_eq_left', exists_eq_left, Option.map_some, Option.bind_some, wEq_int, wNe_int, wEq_bl, wNe_bl, D.bl.injEq, D.int.injEq, wipeD, and_true, true_and, Int.zero_add, Int.toNat_natCast, Bool.or_false, Bool.or_true, Bool.false_or, Bool.true_or, Bool.not_true, Bool.not_false]
    refine ⟨small_LF (by omega), lc_pd (fun l => .lst true (gs (l ++ [i]))) hp (fun x l hr hb K F k => ?_) (small_line (by omega)) ?_⟩
    · obtain ⟨t, rfl⟩ := hr
      have := (lots_asc hb).len
      simp only [WR, WO, WL, isBad, dvD, mapAtD, anyBT, Tgs.len, List.map_cons, List.map_nil, List.replicate, List.length_cons, List.length_nil, List.cons_append, List.nil_append, List.append_nil, Option.some.injEq, exists_eq_left', exists_eq_left, Option.map_some, Option.bind_some, wEq_int, wNe_int, wEq_bl, wNe_bl, D.bl.injEq, D.int.injEq, wipeD, and_true, true_and, Int.zero_add, Int.toNat_natCast, Bool.or_false, Bool.or_true, Bool.false_or, Bool.true_or, Bool.not_true, Bool.not_false, WRS]
      refine ⟨small_line (by decide), small_line (by rw [gs_len]; omega), ?_⟩
      rw [gs_snoc]
      exact k
    · refine ⟨small_line (by rw [List.length_map, lots_len]; omega), ?_⟩
      dsimp only
      rw [wp_nil]
      refine hK _ ⟨_, _, _, ?_, rfl⟩
      refine Paired.app hp ?_
      generalize lotsN i = ls
      induction ls with
      | nil => exact .nil
      | cons l ls ih => exact .cons ⟨true, rfl⟩ ih
  · rintro δ ⟨ys, r2, r3, hp, rfl⟩
    rw [List.length_map, List.length_range] at hp
    dsimp only
    simp only [WR, WO, WL, isBad, dvD, mapAtD, anyBT, Tgs.len, List.map_cons, List.map_nil, List.replicate, List.length_cons, List.length_nil, List.cons_append, List.nil_append, List.append_nil, Option.some.injEq, exists_eq_left', exists_eq_left, Option.map_some, Option.bind_some, wEq_int, wNe_int, wEq_bl, wNe_bl, D.bl.injEq, D.int.injEq, wipeD, and_true, true_and, Int.zero_add, Int.toNat_natCast, Bool.or_false, Bool.or_true, Bool.false_or, Bool.true_or, Bool.not_true, Bool.not_false, WRS]
    exact q ys hp
theorem law_crowd_ok {v : D} {c : Nat} {rs : List (List Int)} (p : PR v c rs) (w : Wf c rs) {g : List Nat} (hg : Asc rs.length g) {x : Int} {t : Bool} (q : Q (.bl (crowdB rs x g))) : W (d + 2) 31 [v, .int x, .lst t (gs g)] Q := by
  refine wclO_body (F := ⟨3, 6, b__law_is_crowd⟩) rfl rfl rfl rfl ?_
  unfold b__law_is_crowd startD
  have gl := hg.len
  have s10 := small10 w
  simp only [WR, WO, WL, isBad, dvD, mapAtD, anyBT, Tgs.len, List.map_cons, List.map_nil, List.replicate, List.length_cons, List.length_nil, List.cons_append, List.nil_append, List.append_nil, Option.some.injEq, exists_eq_left', exists_eq_left, Option.map_some, Option.bind_some, wEq_int, wNe_int, wEq_bl, wNe_bl, D.bl.injEq, D.int.injEq, wipeD, and_true, true_and, Int.zero_add, Int.toNat_natCast, Bool.or_false, Bool.or_true, Bool.false_or, Bool.true_or, Bool.not_true, Bool.not_false, WRS]
  refine ⟨by rw [enum_len, gs_len]; exact small_LF (by omega), lc_det (fun y => match y with | .tup [.int i, _] => .bl ((g.take i.toNat).all fun l => decide (col rs (g.getD i.toNat 0) l = x)) | _ => .non) _ (fun y hy K F k => ?_) (by rw [enum_len, gs_len]; exact small_line (by omega)) ?_⟩
  · obtain ⟨i, hi⟩ := List.getElem?_of_mem hy
    rw [enum_get, gs_get] at hi
    cases e : g[i]? with
    | none => rw [e] at hi; cases hi
    | some a =>
      rw [e] at hi
      cases hi
      have hl : i < g.length := (List.getElem?_eq_some_iff.mp e).1
      have ha : g[i] = a := (List.getElem?_eq_some_iff.mp e).2
      have eg : g.getD i 0 = a := by rw [List.getD_eq_getElem?_getD, e]; rfl
      have k : K (.bl ((g.take i).all fun l => decide (col rs (g.getD i 0) l = x))) := k
      rw [eg] at k
      simp only [WR, WO, WL, isBad, dvD, mapAtD, anyBT, Tgs.len, List.map_cons, List.map_nil, List.replicate, List.length_cons, List.length_nil, List.cons_append, List.nil_append, List.append_nil, Option.some.injEq, exists_eq_left', exists_eq_left, Option.map_some, Option.bind_some, wEq_int, wNe_int, wEq_bl, wNe_bl, D.bl.injEq, D.int.injEq, wipeD, and_true, true_and, Int.zero_add, Int.toNat_natCast, Bool.or_false, Bool.or_true, Bool.false_or, Bool.true_or, Bool.not_true, Bool.not_false, WRS, gs_cut (Nat.le_of_lt hl)]
      refine ⟨by rw [gs_len, List.length_take]; exact small_LF (by omega), gs_lc (fun l => .bl (decide (col rs a l = x))) (g.take i) (by rw [List.length_take]; omega) (fun l hl2 K F k => ?_) ?_⟩
      · obtain ⟨n1, n2, n3⟩ := take_ne hg hl hl2
        rw [ha] at n1 n3
        simp only [WR, WO, WL, isBad, dvD, mapAtD, anyBT, Tgs.len, List.map_cons, List.map_nil, List.replicate, List.length_cons, List.length_nil, List.cons_append, List.nil_append, List.append_nil, Option.some.injEq, exists_eq_left', exists_eq_left, Option.map_some, Option.bind_some, wEq_int, wNe_int, wEq_bl, wNe_bl, D.bl.injEq, D.int.injEq, wipeD, and_true, true_and, Int.zero_add, Int.toNat_natCast, Bool.or_false, Bool.or_true, Bool.false_or, Bool.true_or, Bool.not_true, Bool.not_false, WRS]
        refine law_colour_ok p w n3 n2 (by omega) ?_
        simp only [WR, WO, WL, isBad, dvD, mapAtD, anyBT, Tgs.len, List.map_cons, List.map_nil, List.replicate, List.length_cons, List.length_nil, List.cons_append, List.nil_append, List.append_nil, Option.some.injEq, exists_eq_left', exists_eq_left, Option.map_some, Option.bind_some, wEq_int, wNe_int, wEq_bl, wNe_bl, D.bl.injEq, D.int.injEq, wipeD, and_true, true_and, Int.zero_add, Int.toNat_natCast, Bool.or_false, Bool.or_true, Bool.false_or, Bool.true_or, Bool.not_true, Bool.not_false, WRS]
        exact k
      · refine ⟨_, bls_of _ _, ?_⟩
        rw [band_map]
        exact k
  · rw [enum_map, gs_len]
    refine ⟨_, bls_of (fun i => (g.take i).all fun l => decide (col rs (g.getD i 0) l = x)) (List.range g.length), ?_⟩
    rw [band_map]
    exact q
theorem crowd_cr {rs : List (List Int)} {x : Int} {g : List Nat} (hg : Asc rs.length g) : crowdB rs x g = true ↔ Cr rs x g := by
  rw [crowd_iff]
  constructor
  · intro h
    exact ⟨hg.lt.and h, hg.all⟩
  · intro h
    exact h.p.imp fun h => h.2
def Gr (rs : List (List Int)) (x : Int) (m : Nat) : Prop := ∀ k, Has rs x k ↔ k ≤ m
theorem has_le {rs : List (List Int)} {x : Int} {k j : Nat} (h : Has rs x k) (hj : j ≤ k) : Has rs x j := by
  obtain ⟨g, h1, h2⟩ := h
  refine ⟨g.take j, ⟨h1.p.sublist (List.take_sublist _ _), fun a ha => h1.all a (List.mem_of_mem_take ha)⟩, ?_⟩
  rw [List.length_take]
  omega
theorem imax_ge : ∀ (ns : List Int) (n : Int), n ≤ imax n ns ∧ ∀ x ∈ ns, x ≤ imax n ns
  | [], n => ⟨Int.le_refl _, fun x h => (List.not_mem_nil h).elim⟩
  | m :: ns, n => by
    obtain ⟨h1, h2⟩ := imax_ge ns (if n < m then m else n)
    have e : imax n (m :: ns) = imax (if n < m then m else n) ns := rfl
    rw [e]
    have h3 : n ≤ (if n < m then m else n) ∧ m ≤ (if n < m then m else n) := by split <;> omega
    refine ⟨Int.le_trans h3.1 h1, fun x hx => ?_⟩
    rcases List.mem_cons.mp hx with z | z
    · subst z; exact Int.le_trans h3.2 h1
    · exact h2 x z
theorem imax_mem : ∀ (ns : List Int) (n : Int), imax n ns ∈ n :: ns
  | [], n => List.mem_cons_self
  | m :: ns, n => by
    have e : imax n (m :: ns) = imax (if n < m then m else n) ns := rfl
    rw [e]
    have h := imax_mem ns (if n < m then m else n)
    rcases List.mem_cons.mp h with z | z
    · rw [z]
      split
      · exact List.mem_cons_of_mem _ List.mem_cons_self
      · exact List.mem_cons_self
    · exact List.mem_cons_of_mem _ (List.mem_cons_of_mem _ z)
theorem greatest_ok {v : D} {c : Nat} {rs : List (List Int)} (p : PR v c rs) (w : Wf c rs) (h9 : rs.length ≤ 9) {x : Int} (q : ∀ m : Nat, Gr rs x m → Q (.int (m : Int))) : W (d + 3) 32 [v, .int x] Q := by
  refine wclO_body (F := ⟨2, 3, b__law_greatest⟩) rfl rfl rfl rfl ?_
  unfold b__law_greatest startD
  have p0 := p
  obtain ⟨t, ds, rfl, pr⟩ := p
  have e1 : atA [D.int (c : Int), .lst t ds] 1 = some (.lst t ds) := rfl
  simp only [WR, WO, WL, isBad, dvD, mapAtD, anyBT, Tgs.len, List.map_cons, List.map_nil, List.replicate, List.length_cons, List.length_nil, List.cons_append, List.nil_append, List.append_nil, Option.some.injEq, exists_eq_left', exists_eq_left, Option.map_some, Option.bind_some, wEq_int, wNe_int, wEq_bl, wNe_bl, D.bl.injEq, D.int.injEq, wipeD, and_true, true_and, Int.zero_add, Int.toNat_natCast, Bool.or_false, Bool.or_true, Bool.false_or, Bool.true_or, Bool.not_true, Bool.not_false, WRS, e1, Paired.len pr]
  refine lots_ok (d := d + 1) (by omega) fun ys hp => ?_
  have hl := Paired.len hp
  rw [lots_len] at hl
  have h2 := Nat.pow_le_pow_right (show 2 > 0 by decide) (show rs.length ≤ 10 by omega)
  have h3 : (2 : Nat) ^ 10 = 1024 := by decide
  simp only [WR, WO, WL, isBad, dvD, mapAtD, anyBT, Tgs.len, List.map_cons, List.map_nil, List.replicate, List.length_cons, List.length_nil, List.cons_append, List.nil_append, List.append_nil, Option.some.injEq, exists_eq_left', exists_eq_left, Option.map_some, Option.bind_some, wEq_int, wNe_int, wEq_bl, wNe_bl, D.bl.injEq, D.int.injEq, wipeD, and_true, true_and, Int.zero_add, Int.toNat_natCast, Bool.or_false, Bool.or_true, Bool.false_or, Bool.true_or, Bool.not_true, Bool.not_false, WRS]
  refine ⟨small_LF (by omega), lc_pf (fun l => crowdB rs x l) (fun l => .int (l.length : Int)) [] hp (fun y l hr hb K F k => ?_) (by rw [List.length_nil]; exact small_line (by omega)) ?_⟩
  · obtain ⟨t, rfl⟩ := hr
    simp only [WR, WO, WL, isBad, dvD, mapAtD, anyBT, Tgs.len, List.map_cons, List.map_nil, List.replicate, List.length_cons, List.length_nil, List.cons_append, List.nil_append, List.append_nil, Option.some.injEq, exists_eq_left', exists_eq_left, Option.map_some, Option.bind_some, wEq_int, wNe_int, wEq_bl, wNe_bl, D.bl.injEq, D.int.injEq, wipeD, and_true, true_and, Int.zero_add, Int.toNat_natCast, Bool.or_false, Bool.or_true, Bool.false_or, Bool.true_or, Bool.not_true, Bool.not_false, WRS]
    refine law_crowd_ok p0 w (lots_asc hb) ⟨_, rfl, ?_⟩
    cases e : crowdB rs x l with
    | true =>
      rw [e, if_pos rfl] at k
      simp only [WR, WO, WL, isBad, dvD, mapAtD, anyBT, Tgs.len, List.map_cons, List.map_nil, List.replicate, List.length_cons, List.length_nil, List.cons_append, List.nil_append, List.append_nil, Option.some.injEq, exists_eq_left', exists_eq_left, Option.map_some, Option.bind_some, wEq_int, wNe_int, wEq_bl, wNe_bl, D.bl.injEq, D.int.injEq, wipeD, and_true, true_and, Int.zero_add, Int.toNat_natCast, Bool.or_false, Bool.or_true, Bool.false_or, Bool.true_or, Bool.not_true, Bool.not_false, WRS, gs_len]
      exact k
    | false =>
      rw [e, if_neg (by decide)] at k
      exact k
  · rw [List.reverse_nil, List.nil_append]
    generalize hL : (lotsN rs.length).filter (fun l => crowdB rs x l) = L
    have mem : ∀ l, l ∈ L ↔ Asc rs.length l ∧ Cr rs x l := fun l => by
      rw [← hL, List.mem_filter]
      constructor
      · rintro ⟨h1, h2⟩
        exact ⟨lots_asc h1, (crowd_cr (lots_asc h1)).mp h2⟩
      · rintro ⟨h1, h2⟩
        exact ⟨lots_all h1, (crowd_cr h1).mpr h2⟩
    have hn : [] ∈ L := (mem []).mpr ⟨⟨.nil, fun a ha => (List.not_mem_nil ha).elim⟩, ⟨.nil, fun a ha => (List.not_mem_nil ha).elim⟩⟩
    cases L with
    | nil => cases hn
    | cons l L =>
      have e : D.ints ((l :: L).map fun l => D.int (l.length : Int)) = some ((l.length : Int) :: L.map fun l => (l.length : Int)) := by
        have := D.ints_map ((l :: L).map fun l => (l.length : Int))
        rw [List.map_map] at this
        exact this
      refine ⟨_, _, e, ?_⟩
      obtain ⟨g1, g2⟩ := imax_ge (L.map fun l => (l.length : Int)) (l.length : Int)
      have g3 := imax_mem (L.map fun l => (l.length : Int)) (l.length : Int)
      have g4 : ∀ a ∈ l :: L, (a.length : Int) ≤ imax (l.length : Int) (L.map fun l => (l.length : Int)) := fun a ha => by
        rcases List.mem_cons.mp ha with z | z
        · subst z; exact g1
        · exact g2 _ (List.mem_map.mpr ⟨a, z, rfl⟩)
      have g5 : ∃ a ∈ l :: L, (a.length : Int) = imax (l.length : Int) (L.map fun l => (l.length : Int)) := by
        rcases List.mem_cons.mp g3 with z | z
        · exact ⟨l, List.mem_cons_self, z.symm⟩
        · obtain ⟨a, ha, e⟩ := List.mem_map.mp z
          exact ⟨a, List.mem_cons_of_mem _ ha, e⟩
      obtain ⟨a, ha, ea⟩ := g5
      rw [← ea] at g4 ⊢
      refine q a.length fun k => ⟨?_, fun hk => has_le ⟨a, ((mem a).mp ha).2, rfl⟩ hk⟩
      rintro ⟨g, h1, h2⟩
      have := g4 g ((mem g).mpr ⟨h1.asc, h1⟩)
      omega
end K03
end MP
namespace MP
open PySem
theorem nodup_len : ∀ {l m : List Nat}, l.Nodup → (∀ a ∈ l, a ∈ m) → l.length ≤ m.length
  | [], _, _, _ => Nat.zero_le _
  | a :: l, m, hn, h => by
    obtain ⟨n1, n2⟩ := List.nodup_cons.mp hn
    have ha := h a List.mem_cons_self
    have := nodup_len (l := l) (m := m.erase a) n2 fun b hb => (List.mem_erase_of_ne (fun e => by subst e; exact n1 hb)).mpr (h b (List.mem_cons_of_mem _ hb))
    rw [List.length_erase_of_mem ha] at this
    have := List.length_pos_of_mem ha
    rw [List.length_cons]
    omega
theorem least {P : Nat → Prop} : ∀ n, (∃ i, i < n ∧ P i) → ∃ i, i < n ∧ P i ∧ ∀ j, j < i → ¬ P j
  | 0, ⟨i, h, _⟩ => absurd h (Nat.not_lt_zero _)
  | n + 1, ⟨i, h, hp⟩ => by
    by_cases c : ∃ i, i < n ∧ P i
    · obtain ⟨i, h1, h2, h3⟩ := least n c
      exact ⟨i, by omega, h2, h3⟩
    · have : i = n := by
        by_cases e : i < n
        · exact absurd ⟨i, e, hp⟩ c
        · omega
      subst this
      exact ⟨i, h, hp, fun j hj hh => c ⟨j, hj, hh⟩⟩
theorem perm_map {α β : Type} {f : α → β} {ys zs : List β} (h : List.Perm ys zs) : ∀ {l : List α}, zs = l.map f → ∃ ls, ys = ls.map f ∧ List.Perm ls l := by
  induction h with
  | nil =>
    intro l e
    cases l with
    | nil => exact ⟨[], rfl, .refl _⟩
    | cons a l => cases e
  | cons x _ ih =>
    intro l e
    cases l with
    | nil => cases e
    | cons a l =>
      rw [List.map_cons] at e
      obtain ⟨e1, e2⟩ := List.cons.inj e
      obtain ⟨ls, h1, h2⟩ := ih e2
      exact ⟨a :: ls, by rw [List.map_cons, e1, h1], h2.cons a⟩
  | swap x y l0 =>
    intro l e
    cases l with
    | nil => cases e
    | cons a l =>
      cases l with
      | nil => cases e
      | cons b l =>
        rw [List.map_cons, List.map_cons] at e
        obtain ⟨e1, e2⟩ := List.cons.inj e
        obtain ⟨e2, e3⟩ := List.cons.inj e2
        exact ⟨b :: a :: l, by rw [List.map_cons, List.map_cons, e1, e2, e3], .swap a b l⟩
  | trans _ _ ih1 ih2 =>
    intro l e
    obtain ⟨l1, h1, h2⟩ := ih2 e
    obtain ⟨l2, h3, h4⟩ := ih1 h1
    exact ⟨l2, h3, h4.trans h2⟩
namespace K03
open MP.D
variable {d : Nat} {Q : D → Prop}
def lab (ls : List Nat) (i : Nat) : Nat := ls.getD i 0
theorem lab_get {ls : List Nat} {i : Nat} (h : i < ls.length) : ls[i]? = some (lab ls i) := by
  unfold lab
  rw [List.getD_eq_getElem?_getD, List.getElem?_eq_getElem h]
  rfl
def grt (ls : List Nat) : List (List Int) := (List.range ls.length).map fun g => (List.range g).map fun l => if lab ls g = lab ls l then 0 else 1
theorem grt_len (ls : List Nat) : (grt ls).length = ls.length := by unfold grt; rw [List.length_map, List.length_range]
theorem grt_wf {ls : List Nat} (h : ls.length ≤ 30) : Wf 2 (grt ls) := by
  refine ⟨by decide, by decide, by rw [grt_len]; exact h, fun g r hr => ?_⟩
  unfold grt at hr
  rw [List.getElem?_map] at hr
  by_cases c : g < ls.length
  · rw [List.getElem?_range c] at hr
    cases hr
    refine ⟨by rw [List.length_map, List.length_range], fun x hx => ?_⟩
    obtain ⟨l, _, rfl⟩ := List.mem_map.mp hx
    split <;> omega
  · rw [List.getElem?_eq_none_iff.mpr (by rw [List.length_range]; omega)] at hr
    cases hr
theorem grt_col {ls : List Nat} {a b : Nat} (h : a < b) (hb : b < ls.length) : col (grt ls) b a = if lab ls b = lab ls a then 0 else 1 := by
  unfold col grt
  rw [Nat.max_eq_left (by omega), Nat.min_eq_right (by omega), List.getElem?_map, List.getElem?_range hb]
  show (((List.range b).map fun l => if lab ls b = lab ls l then (0 : Int) else 1)[a]?).getD 0 = _
  rw [List.getElem?_map, List.getElem?_range h]
  rfl
theorem lab_map (ls : List Nat) : (List.range ls.length).map (lab ls) = ls := by
  apply List.ext_getElem?
  intro i
  rw [List.getElem?_map]
  by_cases c : i < ls.length
  · rw [List.getElem?_range c, lab_get c]; rfl
  · rw [List.getElem?_eq_none_iff.mpr (by rw [List.length_range]; omega), List.getElem?_eq_none_iff.mpr (by omega)]; rfl
def cls (ls : List Nat) (y : Nat) : List Nat := (List.range ls.length).filter fun i => lab ls i == y
theorem cls_len (ls : List Nat) (y : Nat) : (cls ls y).length = ls.count y := by
  have h : ls.count y = ((List.range ls.length).map (lab ls)).count y := by rw [lab_map]
  rw [h]
  unfold cls List.count
  rw [List.countP_map, List.countP_eq_length_filter]
  rfl
theorem has0 {ls : List Nat} {k : Nat} : Has (grt ls) 0 k ↔ k = 0 ∨ ∃ y, k ≤ ls.count y := by
  constructor
  · rintro ⟨g, h1, h2⟩
    cases g with
    | nil => exact .inl h2.symm
    | cons a r =>
      refine .inr ⟨lab ls a, ?_⟩
      rw [← h2, ← cls_len]
      have hs := h1.asc.sub
      rw [grt_len] at hs
      have h3 := hs.filter fun i => lab ls i == lab ls a
      have h4 : (a :: r).filter (fun i => lab ls i == lab ls a) = a :: r := List.filter_eq_self.mpr fun b hb => by
        rcases List.mem_cons.mp hb with e | e
        · subst e; exact beq_self_eq_true _
        · obtain ⟨p1, p2⟩ := (List.pairwise_cons.mp h1.p).1 b e
          have hb := h1.all b hb
          rw [grt_len] at hb
          rw [grt_col p1 hb] at p2
          by_cases c : lab ls b = lab ls a
          · exact beq_iff_eq.mpr c
          · rw [if_neg c] at p2
            cases p2
      rw [h4] at h3
      exact h3.length_le
  · rintro (e | ⟨y, h⟩)
    · exact ⟨[], ⟨.nil, fun a ha => (List.not_mem_nil ha).elim⟩, e.symm⟩
    · rw [← cls_len] at h
      refine has_le ⟨cls ls y, ⟨?_, fun a ha => ?_⟩, rfl⟩ h
      · have h1 : (cls ls y).Pairwise (· < ·) := List.pairwise_lt_range.sublist List.filter_sublist
        refine h1.imp_of_mem fun {a b} ha hb hab => ⟨hab, ?_⟩
        obtain ⟨a1, a2⟩ := List.mem_filter.mp ha
        obtain ⟨b1, b2⟩ := List.mem_filter.mp hb
        rw [grt_col hab (List.mem_range.mp b1), if_pos (by rw [beq_iff_eq.mp a2, beq_iff_eq.mp b2])]
      · rw [grt_len]
        exact List.mem_range.mp (List.mem_filter.mp ha).1
theorem has1 {ls : List Nat} {m : Nat} (hm : ∀ y, y ∈ ls ↔ y < m) {k : Nat} : Has (grt ls) 1 k ↔ k ≤ m := by
  constructor
  · rintro ⟨g, h1, h2⟩
    have hn : (g.map (lab ls)).Nodup := by
      refine List.pairwise_map.mpr (h1.p.imp_of_mem fun {a b} ha hb hab => ?_)
      have hb := h1.all b hb
      rw [grt_len] at hb
      have := hab.2
      rw [grt_col hab.1 hb] at this
      intro e
      rw [if_pos e.symm] at this
      cases this
    have := nodup_len (m := List.range m) hn fun y hy => by
      obtain ⟨a, ha, rfl⟩ := List.mem_map.mp hy
      have ha := h1.all a ha
      rw [grt_len] at ha
      exact List.mem_range.mpr ((hm _).mp (List.mem_of_getElem? (lab_get ha)))
    rw [List.length_map, List.length_range] at this
    omega
  · intro h
    let g := (List.range ls.length).filter fun i => decide (lab ls i ∉ (List.range i).map (lab ls))
    have hg : Has (grt ls) 1 g.length := by
      refine ⟨g, ⟨?_, fun a ha => ?_⟩, rfl⟩
      · have h1 : g.Pairwise (· < ·) := List.pairwise_lt_range.sublist List.filter_sublist
        refine h1.imp_of_mem fun {a b} ha hb hab => ⟨hab, ?_⟩
        obtain ⟨b1, b2⟩ := List.mem_filter.mp hb
        rw [grt_col hab (List.mem_range.mp b1), if_neg]
        intro e
        exact of_decide_eq_true b2 (List.mem_map.mpr ⟨a, List.mem_range.mpr hab, e.symm⟩)
      · rw [grt_len]
        exact List.mem_range.mp (List.mem_filter.mp ha).1
    have hl := nodup_len (l := List.range m) (m := g.map (lab ls)) List.nodup_range fun y hy => by
      have hy := (hm y).mpr (List.mem_range.mp hy)
      obtain ⟨i, hi⟩ := List.getElem?_of_mem hy
      have hil := (List.getElem?_eq_some_iff.mp hi).1
      rw [lab_get hil] at hi
      obtain ⟨j, j1, j2, j3⟩ := least (P := fun i => lab ls i = y) ls.length ⟨i, hil, Option.some.inj hi⟩
      refine List.mem_map.mpr ⟨j, List.mem_filter.mpr ⟨List.mem_range.mpr j1, decide_eq_true fun hh => ?_⟩, j2⟩
      obtain ⟨a, ha, e⟩ := List.mem_map.mp hh
      exact j3 a (List.mem_range.mp ha) (by rw [e, j2])
    rw [List.length_range, List.length_map] at hl
    exact has_le hg (by omega)
def pile : Nat → List Nat → List (List Nat)
  | _, [] => []
  | k, s :: ss => List.replicate s k :: pile (k + 1) ss
theorem pile_count : ∀ (ss : List Nat) (k y : Nat), (pile k ss).flatten.count y = if k ≤ y then ss.getD (y - k) 0 else 0
  | [], k, y => by simp [pile]
  | s :: ss, k, y => by
    show (List.replicate s k ++ (pile (k + 1) ss).flatten).count y = _
    rw [List.count_append, pile_count ss (k + 1) y, List.count_replicate]
    by_cases e : k = y
    · subst e
      rw [if_pos (beq_self_eq_true _), if_neg (by omega), if_pos (Nat.le_refl _), Nat.sub_self]
      rfl
    · rw [if_neg (by simpa using e)]
      by_cases c : k ≤ y
      · rw [if_pos c, if_pos (by omega), show y - k = (y - (k + 1)) + 1 by omega]
        simp
      · rw [if_neg c, if_neg (by omega)]
theorem pile_len : ∀ (ss : List Nat) (k : Nat), (∀ s ∈ ss, s ≤ 6) → (pile k ss).flatten.length ≤ 6 * ss.length ∧ (pile k ss).length = ss.length
  | [], k, _ => ⟨Nat.le_refl _, rfl⟩
  | s :: ss, k, h => by
    obtain ⟨h1, h2⟩ := pile_len ss (k + 1) fun x hx => h x (List.mem_cons_of_mem _ hx)
    have := h s List.mem_cons_self
    refine ⟨?_, ?_⟩
    · show (List.replicate s k ++ (pile (k + 1) ss).flatten).length ≤ _
      rw [List.length_append, List.length_replicate, List.length_cons]
      omega
    · show (pile (k + 1) ss).length + 1 = ss.length + 1
      rw [h2]
theorem pile_mem {ss : List Nat} (h : ∀ s ∈ ss, 1 ≤ s) (y : Nat) : y ∈ (pile 0 ss).flatten ↔ y < ss.length := by
  rw [← List.count_pos_iff, pile_count, if_pos (Nat.zero_le _), Nat.sub_zero, List.getD_eq_getElem?_getD]
  by_cases c : y < ss.length
  · rw [List.getElem?_eq_getElem c]
    exact ⟨fun _ => c, fun _ => h _ (List.getElem_mem c)⟩
  · rw [List.getElem?_eq_none_iff.mpr (by omega)]
    exact ⟨fun z => absurd z (by decide), fun z => absurd z c⟩
def pileF : D → D
  | .tup [.int i, .int s] => D.lst true (gs (List.replicate s.toNat i.toNat))
  | _ => .non
theorem pile_map (ss : List Nat) : ∀ k, (enumD (gs ss) k).map pileF = (pile k ss).map fun l => .lst true (gs l) := by
  induction ss with
  | nil => intro k; rfl
  | cons s ss ih =>
    intro k
    show D.lst true (gs (List.replicate s k)) :: _ = D.lst true (gs (List.replicate s k)) :: _
    rw [← ih (k + 1)]
    rfl
theorem chain_ok {ys : List D} {ls : List (List Nat)} (hp : Paired LotR ys ls) (h1 : ls.length ≤ 1000) (h2 : ls.flatten.length ≤ 1000) {t : Bool} (q : Q (.lst true (gs ls.flatten))) : W (d + 1) 26 [.lst t ys] Q := by
  refine wclO_body (F := ⟨1, 3, b__law_chain⟩) rfl rfl rfl rfl ?_
  unfold b__law_chain startD
  have pl := Paired.len hp
  rw [wp_step]
  simp only [WR, WO, WL, isBad, dvD, mapAtD, anyBT, Tgs.len, List.map_cons, List.map_nil, List.replicate, List.length_cons, List.length_nil, List.cons_append, List.nil_append, List.append_nil, Option.some.injEq, exists_eq_left', exists_eq_left, Option.map_some, Option.bind_some, wEq_int, wNe_int, wEq_bl, wNe_bl, D.bl.injEq, D.int.injEq, wipeD, and_true, true_and, Int.zero_add, Int.toNat_natCast, Bool.or_false, Bool.or_true, Bool.false_or, Bool.true_or, Bool.not_true, Bool.not_false]
  refine ⟨small_line (by decide), ?_⟩
  rw [wp_step]
  simp only [WR, WO, WL, isBad, dvD, mapAtD, anyBT, Tgs.len, List.map_cons, List.map_nil, List.replicate, List.length_cons, List.length_nil, List.cons_append, List.nil_append, List.append_nil, Option.some.injEq, exists_eq_left', exists_eq_left, Option.map_some, Option.bind_some, wEq_int, wNe_int, wEq_bl, wNe_bl, D.bl.injEq, D.int.injEq, wipeD, and_true, true_and, Int.zero_add, Int.toNat_natCast, Bool.or_false, Bool.or_true, Bool.false_or, Bool.true_or, Bool.not_true, Bool.not_false]
  refine ⟨small_LF (by omega), ?_⟩
  refine for_inv (fun i δ => ∃ r2, δ = [some (.lst t ys), some (.lst true (gs (ls.take i).flatten)), r2]) _ ?_ ?_ _ 0 _ (fun j => by rw [Nat.zero_add]) (by omega) ⟨_, rfl⟩
  · rintro i x δ hx ⟨r2, rfl⟩ K hK
    obtain ⟨l, hl, t', rfl⟩ := Paired.at1 hp hx
    have hi : i < ls.length := (List.getElem?_eq_some_iff.mp hl).1
    have e : (ls.take (i + 1)).flatten = (ls.take i).flatten ++ l := by
      rw [List.take_succ_eq_append_getElem hi, List.flatten_append, (List.getElem?_eq_some_iff.mp hl).2]
      simp
    have e2 : (ls.take (i + 1)).flatten.length ≤ ls.flatten.length := by
      have := congrArg (fun z => z.flatten.length) (List.take_append_drop (i + 1) ls)
      simp only [List.flatten_append, List.length_append] at this
      omega
    rw [e, List.length_append] at e2
    rw [wp_step]
    simp only [WR, WO, WL, isBad, dvD, mapAtD, anyBT, Tgs.len, List.map_cons, List.map_nil, List.replicate, List.length_cons, List.length_nil, List.cons_append, List.nil_append, List.append_nil, Option.some.injEq, exists_eq_left', exists_eq_left, Option.map_some, Option.bind_some, wEq_int, wNe_int, wEq_bl, wNe_bl, D.bl.injEq, D.int.injEq, wipeD, and_true, true_and, Int.zero_add, Int.toNat_natCast, Bool.or_false, Bool.or_true, Bool.false_or, Bool.true_or, Bool.not_true, Bool.not_false]
    refine ⟨small_line (by rw [gs_len, gs_len]; omega), ?_⟩
    rw [wp_nil]
    refine hK _ ⟨some (.lst t' (gs l)), ?_⟩
    rw [e]
    unfold gs
    rw [List.map_append]
  · rintro δ ⟨r2, rfl⟩
    rw [pl, List.take_length]
    dsimp only
    simp only [WR, WO, WL, isBad, dvD, mapAtD, anyBT, Tgs.len, List.map_cons, List.map_nil, List.replicate, List.length_cons, List.length_nil, List.cons_append, List.nil_append, List.append_nil, Option.some.injEq, exists_eq_left', exists_eq_left, Option.map_some, Option.bind_some, wEq_int, wNe_int, wEq_bl, wNe_bl, D.bl.injEq, D.int.injEq, wipeD, and_true, true_and, Int.zero_add, Int.toNat_natCast, Bool.or_false, Bool.or_true, Bool.false_or, Bool.true_or, Bool.not_true, Bool.not_false, WRS]
    exact q
end K03
end MP
namespace MP
open PySem
theorem wPow (i j : Int) (Q : D → Prop) : wBin .pow (.int i) (.int j) Q = ((0 ≤ j ∧ (Builtin.Int.intBits i : Int) * j ≤ 134217728) ∧ Q (.int (i ^ j.toNat))) := rfl
namespace K03
open MP.D
variable {d : Nat} {Q : D → Prop}
theorem small_true {n : Nat} (h : n ≤ 100000) : (n ≤ lineN) = True := eq_true (small_line h)
theorem nats_of {P : Nat → Prop} : ∀ {ys : List D}, (∀ (i : Nat) (y : D), ys[i]? = some y → ∃ s : Nat, y = .int (s : Int) ∧ P s) → ∃ r : List Nat, ys = gs r ∧ ∀ x ∈ r, P x
  | [], _ => ⟨[], rfl, fun _ h => (List.not_mem_nil h).elim⟩
  | y :: ys, h => by
    obtain ⟨x, rfl, hx⟩ := h 0 y rfl
    obtain ⟨r, rfl, hr⟩ := nats_of (ys := ys) fun i z hz => h (i + 1) z (by simpa using hz)
    refine ⟨x :: r, rfl, fun z hz => ?_⟩
    rcases List.mem_cons.mp hz with e | hz
    · subst e; exact hx
    · exact hr z hz
theorem piles {ss : List Nat} : Paired LotR ((pile 0 ss).map fun l => .lst true (gs l)) (pile 0 ss) := by
  generalize pile 0 ss = ls
  induction ls with
  | nil => exact .nil
  | cons l ls ih => exact .cons ⟨true, rfl⟩ ih
theorem mx_nat {s : Nat} {ss : List Nat} : ∃ m : Nat, imax (s : Int) (ss.map fun i : Nat => (i : Int)) = (m : Int) ∧ m ∈ s :: ss ∧ ∀ a ∈ s :: ss, a ≤ m := by
  obtain ⟨g1, g2⟩ := imax_ge (ss.map fun i : Nat => (i : Int)) (s : Int)
  have g3 := imax_mem (ss.map fun i : Nat => (i : Int)) (s : Int)
  have g4 : ∃ m : Nat, imax (s : Int) (ss.map fun i : Nat => (i : Int)) = (m : Int) ∧ m ∈ s :: ss := by
    rcases List.mem_cons.mp g3 with z | z
    · exact ⟨s, z, List.mem_cons_self⟩
    · obtain ⟨a, ha, e⟩ := List.mem_map.mp z
      exact ⟨a, e.symm, List.mem_cons_of_mem _ ha⟩
  obtain ⟨m, h1, h2⟩ := g4
  refine ⟨m, h1, h2, fun a ha => ?_⟩
  rw [h1] at g1 g2
  rcases List.mem_cons.mp ha with z | z
  · subst z; omega
  · have := g2 _ (List.mem_map.mpr ⟨a, z, rfl⟩)
    omega
theorem grt_pr (ls : List Nat) (t : Bool) : PR (.tup [.int 2, .lst t ((List.range ls.length).map fun g => .lst true (((List.range g).map fun l => if lab ls g = lab ls l then (0 : Int) else 1).map .int))]) 2 (grt ls) := by
  refine ⟨t, _, rfl, ?_⟩
  have := rowR_mk true (grt ls)
  unfold grt at this
  rw [List.map_map] at this
  exact this
def both : D → D
  | .tup [.int a, .int b] => .bl (decide (0 < a ∧ 0 < b))
  | _ => .non
theorem great_ok {p : Nat} (q : Q (.bl true)) : W (d + 8) 33 [.pur p] Q := by
  refine wclO_body (F := ⟨1, 11, b__law_great_right⟩) rfl rfl rfl rfl ?_
  unfold b__law_great_right startD
  rw [wp_step]
  simp only [WR, WO, WL, isBad, dvD, mapAtD, anyBT, Tgs.len, List.map_cons, List.map_nil, List.replicate, List.length_cons, List.length_nil, List.cons_append, List.nil_append, List.append_nil, Option.some.injEq, exists_eq_left', exists_eq_left, Option.map_some, Option.bind_some, wEq_int, wNe_int, wEq_bl, wNe_bl, D.bl.injEq, D.int.injEq, wipeD, and_true, true_and, Int.zero_add, Int.toNat_natCast, Bool.or_false, Bool.or_true, Bool.false_or, Bool.true_or, Bool.not_true, Bool.not_false]
  refine draw_int ⟨by omega, by omega⟩ fun m0 hm0 => ?_
  have em : (1 : Int) + (m0 : Int) = ((m0 + 1 : Nat) : Int) := by omega
  simp only [WR, WO, WL, isBad, dvD, mapAtD, anyBT, Tgs.len, List.map_cons, List.map_nil, List.replicate, List.length_cons, List.length_nil, List.cons_append, List.nil_append, List.append_nil, Option.some.injEq, exists_eq_left', exists_eq_left, Option.map_some, Option.bind_some, wEq_int, wNe_int, wEq_bl, wNe_bl, D.bl.injEq, D.int.injEq, wipeD, and_true, true_and, Int.zero_add, Int.toNat_natCast, Bool.or_false, Bool.or_true, Bool.false_or, Bool.true_or, Bool.not_true, Bool.not_false, em]
  refine ⟨rng_n (by omega), rng_LF (by omega), lc_rngR (fun _ y => ∃ s : Nat, y = .int (s : Int) ∧ (1 ≤ s ∧ s ≤ 6)) (by omega) (fun i hi K F k => ?_) fun ys hl hys => ?_⟩
  · simp only [WR, WO, WL, isBad, dvD, mapAtD, anyBT, Tgs.len, List.map_cons, List.map_nil, List.replicate, List.length_cons, List.length_nil, List.cons_append, List.nil_append, List.append_nil, Option.some.injEq, exists_eq_left', exists_eq_left, Option.map_some, Option.bind_some, wEq_int, wNe_int, wEq_bl, wNe_bl, D.bl.injEq, D.int.injEq, wipeD, and_true, true_and, Int.zero_add, Int.toNat_natCast, Bool.or_false, Bool.or_true, Bool.false_or, Bool.true_or, Bool.not_true, Bool.not_false]
    refine draw_int ⟨by omega, by omega⟩ fun s hs => ?_
    exact k _ ⟨s + 1, by rw [show (1 : Int) + (s : Int) = ((s + 1 : Nat) : Int) by omega], by omega, by omega⟩
  obtain ⟨ss, rfl, hss⟩ := nats_of hys
  rw [gs_len] at hl
  rw [wp_step]
  simp only [WR, WO, WL, isBad, dvD, mapAtD, anyBT, Tgs.len, List.map_cons, List.map_nil, List.replicate, List.length_cons, List.length_nil, List.cons_append, List.nil_append, List.append_nil, Option.some.injEq, exists_eq_left', exists_eq_left, Option.map_some, Option.bind_some, wEq_int, wNe_int, wEq_bl, wNe_bl, D.bl.injEq, D.int.injEq, wipeD, and_true, true_and, Int.zero_add, Int.toNat_natCast, Bool.or_false, Bool.or_true, Bool.false_or, Bool.true_or, Bool.not_true, Bool.not_false]
  refine ⟨by rw [enum_len, gs_len]; exact small_LF (by omega), lc_det pileF _ (fun y hy K F k => ?_) (by rw [enum_len, gs_len]; exact small_line (by omega)) ?_⟩
  · obtain ⟨i, hi⟩ := List.getElem?_of_mem hy
    rw [enum_get, gs_get] at hi
    cases e : ss[i]? with
    | none => rw [e] at hi; cases hi
    | some s =>
      rw [e] at hi
      cases hi
      have hs := hss s (List.mem_of_getElem? e)
      have k : K (.lst true (gs (List.replicate s i))) := k
      simp only [WR, WO, WL, isBad, dvD, mapAtD, anyBT, Tgs.len, List.map_cons, List.map_nil, List.replicate, List.length_cons, List.length_nil, List.cons_append, List.nil_append, List.append_nil, Option.some.injEq, exists_eq_left', exists_eq_left, Option.map_some, Option.bind_some, wEq_int, wNe_int, wEq_bl, wNe_bl, D.bl.injEq, D.int.injEq, wipeD, and_true, true_and, Int.zero_add, Int.toNat_natCast, Bool.or_false, Bool.or_true, Bool.false_or, Bool.true_or, Bool.not_true, Bool.not_false]
      refine ⟨small_line (by decide), ⟨(rng_n (by omega)).1, (rng_n (by omega)).2, small_line (by omega)⟩, ?_⟩
      rw [repA_one]
      unfold gs at k
      rw [List.map_replicate] at k
      exact k
  rw [pile_map]
  obtain ⟨pl, pn⟩ := pile_len ss 0 fun s hs => (hss s hs).2
  refine chain_ok (d := d + 6) piles (by omega) (by omega) ?_
  refine shuffled_ok (d := d + 6) (by rw [gs_len]; omega) fun zs hz => ?_
  obtain ⟨ls, rfl, hp⟩ := perm_map (f := fun i : Nat => D.int (i : Int)) hz rfl
  have eg : ls.map (fun i : Nat => D.int (i : Int)) = gs ls := rfl
  rw [eg]
  have hlen : ls.length ≤ 24 := by rw [hp.length_eq]; omega
  have hmem : ∀ y, y ∈ ls ↔ y < ss.length := fun y => by rw [hp.mem_iff]; exact pile_mem (fun s hs => (hss s hs).1) y
  have hcnt : ∀ y, ls.count y = ss.getD y 0 := fun y => by rw [hp.count_eq, pile_count, if_pos (Nat.zero_le _), Nat.sub_zero]
  rw [wp_step]
  simp only [WR, WO, WL, isBad, dvD, mapAtD, anyBT, Tgs.len, List.map_cons, List.map_nil, List.replicate, List.length_cons, List.length_nil, List.cons_append, List.nil_append, List.append_nil, Option.some.injEq, exists_eq_left', exists_eq_left, Option.map_some, Option.bind_some, wEq_int, wNe_int, wEq_bl, wNe_bl, D.bl.injEq, D.int.injEq, wipeD, and_true, true_and, Int.zero_add, Int.toNat_natCast, Bool.or_false, Bool.or_true, Bool.false_or, Bool.true_or, Bool.not_true, Bool.not_false, gs_len]
  refine ⟨rng_n (by omega), rng_LF (by omega), lc_rng (fun g => .lst true (((List.range g).map fun l => if lab ls g = lab ls l then (0 : Int) else 1).map .int)) (by omega) (fun g hg K F k => ?_) ?_⟩
  · simp only [WR, WO, WL, isBad, dvD, mapAtD, anyBT, Tgs.len, List.map_cons, List.map_nil, List.replicate, List.length_cons, List.length_nil, List.cons_append, List.nil_append, List.append_nil, Option.some.injEq, exists_eq_left', exists_eq_left, Option.map_some, Option.bind_some, wEq_int, wNe_int, wEq_bl, wNe_bl, D.bl.injEq, D.int.injEq, wipeD, and_true, true_and, Int.zero_add, Int.toNat_natCast, Bool.or_false, Bool.or_true, Bool.false_or, Bool.true_or, Bool.not_true, Bool.not_false]
    refine ⟨rng_n (by omega), rng_LF (by omega), lc_rng (fun l => .int (if lab ls g = lab ls l then (0 : Int) else 1)) (by omega) (fun l hl K2 F2 k2 => ?_) ?_⟩
    · simp only [WR, WO, WL, isBad, dvD, mapAtD, anyBT, Tgs.len, List.map_cons, List.map_nil, List.replicate, List.length_cons, List.length_nil, List.cons_append, List.nil_append, List.append_nil, Option.some.injEq, exists_eq_left', exists_eq_left, Option.map_some, Option.bind_some, wEq_int, wNe_int, wEq_bl, wNe_bl, D.bl.injEq, D.int.injEq, wipeD, and_true, true_and, Int.zero_add, Int.toNat_natCast, Bool.or_false, Bool.or_true, Bool.false_or, Bool.true_or, Bool.not_true, Bool.not_false, atA_nat, gs_get, lab_get hg, lab_get (show l < ls.length by omega)]
      by_cases e : lab ls g = lab ls l
      · rw [if_pos e] at k2
        rw [decide_eq_true (show (lab ls g : Int) = (lab ls l : Int) by omega)]
        exact k2
      · rw [if_neg e] at k2
        rw [decide_eq_false (show ¬ (lab ls g : Int) = (lab ls l : Int) by omega)]
        exact k2
    · rw [List.map_map] at k
      exact k
  refine ⟨small_line (by decide), ?_⟩
  have pr := grt_pr ls true
  have wf := grt_wf (ls := ls) (by omega)
  cases ss with
  | nil => exact absurd hl (by rw [List.length_nil]; omega)
  | cons s0 ss =>
  obtain ⟨mx, e1, e2, e3⟩ := mx_nat (s := s0) (ss := ss)
  have ei : D.ints (gs (s0 :: ss)) = some ((s0 : Int) :: ss.map fun i : Nat => (i : Int)) := by rw [gs_ints, D.ints_map]; rfl
  have hz0 : ∀ k, 1 ≤ k → (Has (grt ls) 0 k ↔ k ≤ mx) := fun k hk => by
    rw [has0]
    constructor
    · rintro (h | ⟨y, h⟩)
      · omega
      · rw [hcnt, List.getD_eq_getElem?_getD] at h
        cases e : (s0 :: ss)[y]? with
        | none => rw [e] at h; exact absurd (Nat.le_trans hk h) (by decide)
        | some s =>
          rw [e] at h
          have := e3 s (List.mem_of_getElem? e)
          exact Nat.le_trans h this
    · intro h
      obtain ⟨y, hy⟩ := List.getElem?_of_mem e2
      refine .inr ⟨y, ?_⟩
      rw [hcnt, List.getD_eq_getElem?_getD, hy]
      exact h
  have hz1 : ∀ k, Has (grt ls) 1 k ↔ k ≤ (s0 :: ss).length := fun k => has1 hmem
  have hm1 := (hss mx e2).1
  rw [wp_step]
  simp only [WR, WO, WL, isBad, dvD, mapAtD, anyBT, Tgs.len, List.map_cons, List.map_nil, List.replicate, List.length_cons, List.length_nil, List.cons_append, List.nil_append, List.append_nil, Option.some.injEq, exists_eq_left', exists_eq_left, Option.map_some, Option.bind_some, wEq_int, wNe_int, wEq_bl, wNe_bl, D.bl.injEq, D.int.injEq, wipeD, and_true, true_and, Int.zero_add, Int.toNat_natCast, Bool.or_false, Bool.or_true, Bool.false_or, Bool.true_or, Bool.not_true, Bool.not_false, wPow, small_true, Nat.reduceAdd, Nat.reduceLeDiff]
  refine ⟨⟨by decide, by decide⟩, small_LF (by decide), lc_det both _ (fun y hy K F k => ?_) (small_line (by decide)) ?_⟩
  · have hab : ∃ a b : Nat, y = .tup [.int (a : Int), .int (b : Int)] := by
      simp only [List.mem_cons, List.not_mem_nil, or_false] at hy
      rcases hy with e | e | e | e | e <;> subst e
      · exact ⟨1, 1, rfl⟩
      · exact ⟨0, 1, rfl⟩
      · exact ⟨1, 0, rfl⟩
      · exact ⟨0, 0, rfl⟩
      · exact ⟨9, 10 ^ 11, rfl⟩
    obtain ⟨a, b, rfl⟩ := hab
    have k : K (.bl (decide (0 < (a : Int) ∧ 0 < (b : Int)))) := k
    simp only [WR, WO, WL, isBad, dvD, mapAtD, anyBT, Tgs.len, List.map_cons, List.map_nil, List.replicate, List.length_cons, List.length_nil, List.cons_append, List.nil_append, List.append_nil, Option.some.injEq, exists_eq_left', exists_eq_left, Option.map_some, Option.bind_some, wEq_int, wNe_int, wEq_bl, wNe_bl, D.bl.injEq, D.int.injEq, wipeD, and_true, true_and, Int.zero_add, Int.toNat_natCast, Bool.or_false, Bool.or_true, Bool.false_or, Bool.true_or, Bool.not_true, Bool.not_false]
    refine ⟨_, _, ei, ?_⟩
    rw [e1, gs_len]
    have eg2 : D.lst true [D.int ((mx : Int) + (a : Int)), D.int (((s0 :: ss).length : Int) + (b : Int))] = .lst true (gs [mx + a, (s0 :: ss).length + b]) := by
      unfold gs
      simp only [List.map_cons, List.map_nil, Int.natCast_add]
    rw [eg2]
    refine is_free_ok (d := d + 1) pr wf (by rw [grt_len]; exact hlen) rfl (fun s hs => ?_) fun r hr => ?_
    · simp only [List.mem_cons, List.not_mem_nil, or_false] at hs
      rcases hs with e | e <;> subst e
      · omega
      · rw [List.length_cons]; omega
    · have er : r = decide (0 < (a : Int) ∧ 0 < (b : Int)) := by
        rw [Bool.eq_iff_iff, hr, decide_eq_true_iff]
        constructor
        · intro h
          have h0 := h 0 (mx + a) rfl
          have h1 := h 1 (_ + b) rfl
          rw [show ((0 : Nat) : Int) = 0 from rfl, hz0 _ (by omega)] at h0
          rw [show ((1 : Nat) : Int) = 1 from rfl, hz1] at h1
          omega
        · rintro ⟨h0, h1⟩ i s hs hh
          match i, hs with
          | 0, hs =>
            cases hs
            rw [show ((0 : Nat) : Int) = 0 from rfl, hz0 _ (by omega)] at hh
            omega
          | 1, hs =>
            cases hs
            rw [show ((1 : Nat) : Int) = 1 from rfl, hz1] at hh
            omega
          | i + 2, hs => cases hs
      rw [er]
      exact k
  · have eb : [D.tup [.int 1, .int 1], .tup [.int 0, .int 1], .tup [.int 1, .int 0], .tup [.int 0, .int 0], .tup [.int 9, .int ((10 : Int) ^ ((11 : Int).toNat))]].map both = [.bl true, .bl false, .bl false, .bl false, .bl true] := rfl
    rw [eb]
    simp only [WR, WO, WL, isBad, dvD, mapAtD, anyBT, Tgs.len, List.map_cons, List.map_nil, List.replicate, List.length_cons, List.length_nil, List.cons_append, List.nil_append, List.append_nil, Option.some.injEq, exists_eq_left', exists_eq_left, Option.map_some, Option.bind_some, wEq_int, wNe_int, wEq_bl, wNe_bl, D.bl.injEq, D.int.injEq, wipeD, and_true, true_and, Int.zero_add, Int.toNat_natCast, Bool.or_false, Bool.or_true, Bool.false_or, Bool.true_or, Bool.not_true, Bool.not_false, WRS, small_true, Nat.reduceAdd, Nat.reduceLeDiff, Nat.zero_le]
    refine same_fit (k := 1) (d := d + 5) (Fit.lst (by simp) (memC (Fit.bl _) (memC (Fit.bl _) (memC (Fit.bl _) (memC (Fit.bl _) (mem1 (Fit.bl _))))))) rfl ?_
    exact q
end K03
end MP
namespace MP
open PySem
def dropS : Nat → Ss → Ss
  | 0, s => s
  | n + 1, .cons _ r => dropS n r
  | _, .nil => .nil
def bodyS : Ss → Ss
  | .cons (.forr _ _ b) _ => b
  | _ => .nil
theorem atA_last {α : Type} (xs : List α) : atA xs (-1) = xs[xs.length - 1]? := by
  cases xs with
  | nil => rfl
  | cons a xs => rfl
namespace K03
open MP.D
variable {d : Nat} {Q : D → Prop}
def tl (n : Nat) : Ss := dropS n (bodyS b_law)
def pd (c : Nat) (rs : List (List Int)) : PyData := .tuple [.int (c : Int), .list (rs.map fun r => .list (r.map .int))]
def ka (c : Nat) (rs : List (List Int)) : Str := reprD (pd c rs)
theorem dat_rows {k : Nat} {ds : List D} {rs : List (List Int)} (p : Paired RowR ds rs) : D.datL (D.dat (k + 1)) ds = some (rs.map fun r => .list (r.map .int)) := by
  induction p with
  | nil => rfl
  | cons r _ ih =>
    obtain ⟨t, rfl⟩ := r
    unfold D.datL
    rw [ih]
    show (match (D.datL (D.dat k) (_ : List D)).map PyData.list, some _ with | some d, some ds => some (d :: ds) | _, _ => none) = _
    rw [datL_ints]
    rfl
theorem PR.dat {v : D} {c : Nat} {rs : List (List Int)} (p : PR v c rs) (k : Nat) : v.dat (k + 3) = some (pd c rs) := by
  obtain ⟨t, ds, rfl, pr⟩ := p
  show (D.datL (D.dat (k + 2)) [.int (c : Int), .lst t ds]).map PyData.tuple = _
  have e : D.dat (k + 2) (.lst t ds) = some (.list (rs.map fun r => .list (r.map .int))) := by
    show (D.datL (D.dat (k + 1)) ds).map PyData.list = _
    rw [dat_rows pr]
    rfl
  simp only [D.datL, e]
  rfl
theorem num_ints {r : List Int} (h : ∀ x ∈ r, 0 ≤ x ∧ x < 4) : numDs (r.map .int) = true := by
  induction r with
  | nil => rfl
  | cons a r ih =>
    obtain ⟨h1, h2⟩ := h a List.mem_cons_self
    show (decide (a.natAbs < 10 ^ 12) && numDs (r.map .int)) = true
    rw [ih fun x hx => h x (List.mem_cons_of_mem _ hx), decide_eq_true (by omega)]
    rfl
theorem num_rows {rs : List (List Int)} (h : ∀ r ∈ rs, ∀ x ∈ r, 0 ≤ x ∧ x < 4) : numDs (rs.map fun r => .list (r.map .int)) = true := by
  induction rs with
  | nil => rfl
  | cons r rs ih =>
    show (numDs (r.map .int) && numDs (rs.map fun r => .list (r.map .int))) = true
    rw [num_ints (h r List.mem_cons_self), ih fun x hx => h x (List.mem_cons_of_mem _ hx)]
    rfl
theorem Wf.all {c : Nat} {rs : List (List Int)} (w : Wf c rs) (h : rs.length ≤ 9) : ∀ r ∈ rs, r.length ≤ 20 ∧ ∀ x ∈ r, 0 ≤ x ∧ x < 4 := fun r hr => by
  obtain ⟨g, hg⟩ := List.getElem?_of_mem hr
  obtain ⟨h1, h2⟩ := w.at_ g r hg
  have := (List.getElem?_eq_some_iff.mp hg).1
  have := w.four
  refine ⟨by omega, fun x hx => ?_⟩
  have := h2 x hx
  omega
theorem rz_ints (r : List Int) : rzL (r.map .int) = 15 * r.length := by
  induction r with
  | nil => rfl
  | cons a r ih => show 13 + 2 + rzL (r.map .int) = _; rw [ih, List.length_cons]; omega
theorem rz_rows {rs : List (List Int)} (h : ∀ r ∈ rs, r.length ≤ 20) : rzL (rs.map fun r => .list (r.map .int)) ≤ 400 * rs.length := by
  induction rs with
  | nil => exact Nat.le_refl _
  | cons r rs ih =>
    have := ih fun x hx => h x (List.mem_cons_of_mem _ hx)
    have := h r List.mem_cons_self
    show rzL (r.map .int) + 3 + 2 + rzL (rs.map fun r => .list (r.map .int)) ≤ _
    rw [rz_ints, List.length_cons]
    omega
theorem pd_num {c : Nat} {rs : List (List Int)} (w : Wf c rs) (h : rs.length ≤ 9) : numD (pd c rs) = true ∧ rz (pd c rs) ≤ 100000 := by
  have four := w.four
  constructor
  · show (decide ((c : Int).natAbs < 10 ^ 12) && (numDs (rs.map fun r => .list (r.map .int)) && true)) = true
    rw [num_rows fun r hr => (w.all h r hr).2, decide_eq_true (by omega)]
    rfl
  · have h1 := rz_rows fun r hr => (w.all h r hr).1
    show 13 + 2 + (rzL (rs.map fun r => .list (r.map .int)) + 3 + 2 + 0) + 3 ≤ 100000
    omega
theorem repr_ok {v : D} {c : Nat} {rs : List (List Int)} (p : PR v c rs) (w : Wf c rs) (h : rs.length ≤ 9) : D.dat 60 v = some (pd c rs) ∧ smallD (pd c rs) = true ∧ (reprD (pd c rs)).length ≤ lineN := by
  obtain ⟨h1, h2⟩ := pd_num w h
  exact ⟨PR.dat p 57, small_num _ h1, Nat.le_trans (repr_len _ h1) (small_line h2)⟩
theorem ka_ok {c : Nat} {rs : List (List Int)} (w : Wf c rs) (h : rs.length ≤ 9) : okCp (ka c rs) := okCp_repr _ (pd_num w h).1
theorem dropNew_re (x : D) : dropNew (some x.re) = some x.re := by
  show (if x.re.old = true then some x.re else none) = some x.re
  rw [if_pos (D.re_old x)]
theorem re_list : (∀ (t : Bool) (xs : List D), (D.lst t xs).re = .lst false (D.reL xs)) ∧ (∀ xs : List D, (D.tup xs).re = .tup (D.reL xs)) ∧ (∀ i : Int, (D.int i).re = .int i) ∧ (∀ i : Str, (D.str i).re = .str i) ∧ (∀ i : Nat, (D.pur i).re = .pur i) ∧ (∀ i : Bool, (D.bl i).re = .bl i) ∧ D.reL [] = [] ∧ (∀ x xs, D.reL (x :: xs) = x.re :: D.reL xs) := ⟨fun _ _ => rfl, fun _ => rfl, fun _ => rfl, fun _ => rfl, fun _ => rfl, fun _ => rfl, rfl, fun _ _ => rfl⟩
theorem drop_flat : (∀ i : Int, dropNew (some (.int i)) = some (.int i)) ∧ (∀ i : Str, dropNew (some (.str i)) = some (.str i)) ∧ (∀ i : Nat, dropNew (some (.pur i)) = some (.pur i)) ∧ dropNew none = none := ⟨fun _ => rfl, fun _ => rfl, fun _ => rfl, rfl⟩
theorem fit_mkP {c : Nat} {rs : List (List Int)} (hl : rs.length ≤ 20) (h : ∀ r ∈ rs, r.length ≤ 20) : Fit 3 (mkP c rs) :=
  Fit.tup (by simp) (memC ((Fit.int _).mono (Nat.zero_le _)) (mem1 (Fit.rows (rowR_mk true rs) (by omega) fun r hr => by have := h r hr; omega)))
theorem nats_ofI {P : Nat → Nat → Prop} : ∀ {ys : List D} (k : Nat), (∀ (i : Nat) (y : D), ys[i]? = some y → ∃ s : Nat, y = .int (s : Int) ∧ P (k + i) s) → ∃ r : List Nat, ys = gs r ∧ ∀ i x, r[i]? = some x → P (k + i) x
  | [], _, _ => ⟨[], rfl, fun i x h => (by cases h)⟩
  | y :: ys, k, h => by
    obtain ⟨x, rfl, hx⟩ := h 0 y rfl
    obtain ⟨r, rfl, hr⟩ := nats_ofI (ys := ys) (P := P) (k + 1) fun i z hz => by
      have := h (i + 1) z (by simpa using hz)
      rw [show k + (i + 1) = k + 1 + i by omega] at this
      exact this
    refine ⟨x :: r, rfl, fun i z hz => ?_⟩
    cases i with
    | zero => cases hz; exact hx
    | succ i =>
      have := hr i z (by simpa using hz)
      rw [show k + (i + 1) = k + 1 + i by omega]
      exact this
theorem zip_lt : ∀ (ms ss : List Nat), band ((zipD (gs ms) (gs ss)).map ltD) = true ↔ ∀ i m s : Nat, ms[i]? = some m → ss[i]? = some s → m < s
  | [], ss => ⟨fun _ i m s h => (by cases h), fun _ => (by cases ss <;> rfl)⟩
  | m :: ms, [] => ⟨fun _ i m s _ h => (by cases h), fun _ => rfl⟩
  | m :: ms, s :: ss => by
    show (decide ((m : Int) < (s : Int)) && band ((zipD (gs ms) (gs ss)).map ltD)) = true ↔ _
    rw [Bool.and_eq_true, zip_lt ms ss, decide_eq_true_iff]
    constructor
    · rintro ⟨h1, h2⟩ i m' s' hm hs
      cases i with
      | zero => cases hm; cases hs; omega
      | succ i => exact h2 i m' s' (by simpa using hm) (by simpa using hs)
    · intro h
      refine ⟨?_, fun i m' s' hm hs => h (i + 1) m' s' (by simpa using hm) (by simpa using hs)⟩
      have := h 0 m s rfl rfl
      omega
theorem one_of_ok {p : Nat} {t : Bool} {xs : List D} (h : 1 ≤ xs.length ∧ xs.length ≤ 100000) (q : ∀ y ∈ xs, Q y) : W (d + 1) 22 [.pur p, .lst t xs] Q := by
  refine wclO_body (F := ⟨2, 2, b__law_one_of⟩) rfl rfl rfl rfl ?_
  unfold b__law_one_of startD
  simp only [WR, WO, WL, isBad, dvD, mapAtD, anyBT, Tgs.len, List.map_cons, List.map_nil, List.replicate, List.length_cons, List.length_nil, List.cons_append, List.nil_append, List.append_nil, Option.some.injEq, exists_eq_left', exists_eq_left, Option.map_some, Option.bind_some, wEq_int, wNe_int, wEq_bl, wNe_bl, D.bl.injEq, D.int.injEq, wipeD, and_true, true_and, Int.zero_add, Int.toNat_natCast, Bool.or_false, Bool.or_true, Bool.false_or, Bool.true_or, Bool.not_true, Bool.not_false, WRS]
  refine draw_ok ⟨h.1, by omega⟩ fun i hi => ?_
  simp only [WR, WO, WL, isBad, dvD, mapAtD, anyBT, Tgs.len, List.map_cons, List.map_nil, List.replicate, List.length_cons, List.length_nil, List.cons_append, List.nil_append, List.append_nil, Option.some.injEq, exists_eq_left', exists_eq_left, Option.map_some, Option.bind_some, wEq_int, wNe_int, wEq_bl, wNe_bl, D.bl.injEq, D.int.injEq, wipeD, and_true, true_and, Int.zero_add, Int.toNat_natCast, Bool.or_false, Bool.or_true, Bool.false_or, Bool.true_or, Bool.not_true, Bool.not_false, WRS, atA_nat, List.getElem?_eq_getElem hi]
  exact q _ (List.getElem_mem hi)
theorem take_map {α : Type} (g : List Nat) (f : Nat → α) (i : Nat) (h : i ≤ g.length) : (g.take i).map f = (List.range i).map fun l => f (g.getD l 0) := by
  apply List.ext_getElem?
  intro j
  rw [List.getElem?_map, List.getElem?_map, List.getElem?_take]
  by_cases c : j < i
  · rw [if_pos c, List.getElem?_range c, List.getElem?_eq_getElem (by omega)]
    show some (f (g[j]'(by omega))) = some (f (g.getD j 0))
    rw [List.getD_eq_getElem?_getD, List.getElem?_eq_getElem (by omega)]
    rfl
  · rw [if_neg c, List.getElem?_eq_none_iff.mpr (by rw [List.length_range]; omega)]
    rfl
theorem asc_range (n : Nat) : Asc n (List.range n) := ⟨List.pairwise_lt_range, fun a ha => List.mem_range.mp ha⟩
theorem part_all {c : Nat} {rs : List (List Int)} (w : Wf c rs) : partR rs (List.range rs.length) = rs := by
  unfold partR
  apply List.ext_getElem?
  intro i
  rw [List.getElem?_map, List.length_range]
  by_cases h : i < rs.length
  · rw [List.getElem?_range h, List.getElem?_eq_getElem h]
    obtain ⟨h1, _⟩ := w.at_ i _ (List.getElem?_eq_getElem h)
    show some _ = some _
    congr 1
    dsimp only
    rw [take_map (List.range rs.length) _ i (by rw [List.length_range]; omega)]
    apply List.ext_getElem?
    intro l
    rw [List.getElem?_map]
    by_cases hl : l < i
    · rw [List.getElem?_range hl, List.getElem?_eq_getElem (by omega)]
      show some (col rs ((List.range rs.length).getD i 0) ((List.range rs.length).getD l 0)) = _
      rw [List.getD_eq_getElem?_getD, List.getElem?_range h, List.getD_eq_getElem?_getD, List.getElem?_range (by omega)]
      unfold col
      rw [Option.getD_some, Option.getD_some, Nat.max_eq_left (by omega), Nat.min_eq_right (by omega), List.getElem?_eq_getElem h, Option.bind_some, List.getElem?_eq_getElem (by omega)]
      rfl
    · rw [List.getElem?_eq_none_iff.mpr (by rw [List.length_range]; omega), List.getElem?_eq_none_iff.mpr (by omega)]
      rfl
  · rw [List.getElem?_eq_none_iff.mpr (by rw [List.length_range]; omega), List.getElem?_eq_none_iff.mpr (by omega)]
    rfl
theorem part_len {rs : List (List Int)} {g : List Nat} {n : Nat} (h : g.length ≤ n) : (partR rs g).length ≤ n ∧ ∀ r ∈ partR rs g, r.length ≤ n := by
  unfold partR
  refine ⟨by rw [List.length_map, List.length_range]; exact h, fun r hr => ?_⟩
  obtain ⟨i, hi, rfl⟩ := List.mem_map.mp hr
  rw [List.length_map, List.length_take]
  omega
theorem re_gs (g : List Nat) : D.reL (gs g) = gs g := by
  rw [gs_ints, re_ints]
theorem PR.re_mk {v : D} {c : Nat} {rs : List (List Int)} (p : PR v c rs) : v.re = (mkP c rs).re := by
  obtain ⟨t, ds, rfl, pr⟩ := p
  show D.tup [.int (c : Int), .lst false (D.reL ds)] = D.tup [.int (c : Int), .lst false (D.reL (rs.map fun r => .lst true (r.map .int)))]
  rw [re_rows pr, K03.re_mk]
theorem free_of {rs : List (List Int)} {c : Nat} {ms ss : List Nat} (hm : ms.length = c) (hs : ss.length = c) (h : ∀ i m : Nat, ms[i]? = some m → Gr rs (i : Int) m) : Free rs ss ↔ ∀ i m s : Nat, ms[i]? = some m → ss[i]? = some s → m < s := by
  constructor
  · intro hf i m s h1 h2
    have := hf i s h2
    rw [h i m h1 s] at this
    omega
  · intro hf i s h2
    have hi : i < ms.length := by have := (List.getElem?_eq_some_iff.mp h2).1; omega
    have h1 := List.getElem?_eq_getElem hi
    have := hf i _ s h1 h2
    rw [h i _ h1 s]
    omega
end K03
end MP
namespace MP
open PySem
namespace K03
open MP.D
variable {d : Nat} {Q : D → Prop}
theorem small_trueL {n : Nat} (h : n ≤ 100000) : (n ≤ lineN) = True := eq_true (small_line h)
theorem fit_P {v : D} {c : Nat} {rs : List (List Int)} (p : PR v c rs) (h1 : rs.length ≤ 20) (h : ∀ r ∈ rs, r.length ≤ 20) : Fit 3 v := by
  obtain ⟨t, ds, rfl, pr⟩ := p
  exact Fit.tup (by simp) (memC ((Fit.int _).mono (Nat.zero_le _)) (mem1 (Fit.rows pr (by omega) fun r hr => by have := h r hr; omega)))
theorem mk_pr (c : Nat) (rs : List (List Int)) : PR (mkP c rs) c rs := ⟨true, _, rfl, rowR_mk true rs⟩
theorem zip_ii : ∀ {ms ss : List Nat} {z : D}, z ∈ zipD (gs ms) (gs ss) → ∃ a b : Int, z = .tup [.int a, .int b]
  | [], ss, z, h => by cases ss <;> cases h
  | _ :: _, [], z, h => by cases h
  | m :: ms, s :: ss, z, h => by
    rcases List.mem_cons.mp (show z ∈ D.tup [.int (m : Int), .int (s : Int)] :: zipD (gs ms) (gs ss) from h) with e | h
    · exact ⟨m, s, e⟩
    · exact zip_ii h
theorem part_E {p c : Nat} {v : D} {rs : List (List Int)} (p1 : PR v c rs) (w : Wf c rs) (hr : rs.length ≤ 7) {g : List Nat} (hg : Asc rs.length g) {t : Bool} (r6 r7 r8 r10 r11 r12 r13 r14 r15 r16 r18 r19 r20 : Option D) :
    wqSs (W (d + 20)) 27 (tl 10) [none, some (.pur p), some (.int (c : Int)), some v, some (.int (rs.length : Int)), some (.str (ka c rs)), r6, r7, r8, some (.lst t (gs g)), r10, r11, r12, r13, r14, r15, r16, some (mkP c (partR rs g)), r18, r19, r20] lawEnds := by
  unfold tl dropS bodyS b_law
  simp only [dropS]
  have gl := hg.len
  obtain ⟨q1, q2⟩ := part_len (rs := rs) (g := g) (n := 20) (by omega)
  -- a mark
  refine wq_r ?_
  simp only [WR, WO, WL, isBad, dvD, mapAtD, anyBT, Tgs.len, List.map_cons, List.map_nil, List.replicate, List.length_cons, List.length_nil, List.cons_append, List.nil_append, List.append_nil, Option.some.injEq, exists_eq_left', exists_eq_left, Option.map_some, Option.bind_some, wEq_int, wNe_int, wEq_bl, wNe_bl, D.bl.injEq, D.int.injEq, wipeD, and_true, true_and, Int.zero_add, Int.toNat_natCast, Bool.or_false, Bool.or_true, Bool.false_or, Bool.true_or, Bool.not_true, Bool.not_false, WQ, reE, Option.map_none, re_list, re_gs]
  refine part_of_ok (d := d + 14) p1.re w hg ?_
  refine part_of_ok (d := d + 14) p1.re w hg ?_
  refine ⟨small_line (by decide), ?_⟩
  refine wq_l ?_
  simp only [WR, WO, WL, isBad, dvD, mapAtD, anyBT, Tgs.len, List.map_cons, List.map_nil, List.replicate, List.length_cons, List.length_nil, List.cons_append, List.nil_append, List.append_nil, Option.some.injEq, exists_eq_left', exists_eq_left, Option.map_some, Option.bind_some, wEq_int, wNe_int, wEq_bl, wNe_bl, D.bl.injEq, D.int.injEq, wipeD, and_true, true_and, Int.zero_add, Int.toNat_natCast, Bool.or_false, Bool.or_true, Bool.false_or, Bool.true_or, Bool.not_true, Bool.not_false, WQ, small_trueL, Nat.reduceAdd, Nat.reduceLeDiff, Nat.zero_le]
  have fp := fit_mkP (c := c) q1 q2
  refine same_fit (k := 4) (d := d + 15) (Fit.lst (by simp) (memC fp (mem1 fp))) ?_ ?_
  · simp only [re_list, D.re_re]
  simp only [WR, WO, WL, isBad, dvD, mapAtD, anyBT, Tgs.len, List.map_cons, List.map_nil, List.replicate, List.length_cons, List.length_nil, List.cons_append, List.nil_append, List.append_nil, Option.some.injEq, exists_eq_left', exists_eq_left, Option.map_some, Option.bind_some, wEq_int, wNe_int, wEq_bl, wNe_bl, D.bl.injEq, D.int.injEq, wipeD, and_true, true_and, Int.zero_add, Int.toNat_natCast, Bool.or_false, Bool.or_true, Bool.false_or, Bool.true_or, Bool.not_true, Bool.not_false, WQ]
  rw [wq_nil]
  refine wq_l ?_
  simp only [WR, WO, WL, isBad, dvD, mapAtD, anyBT, Tgs.len, List.map_cons, List.map_nil, List.replicate, List.length_cons, List.length_nil, List.cons_append, List.nil_append, List.append_nil, Option.some.injEq, exists_eq_left', exists_eq_left, Option.map_some, Option.bind_some, wEq_int, wNe_int, wEq_bl, wNe_bl, D.bl.injEq, D.int.injEq, wipeD, and_true, true_and, Int.zero_add, Int.toNat_natCast, Bool.or_false, Bool.or_true, Bool.false_or, Bool.true_or, Bool.not_true, Bool.not_false, WQ]
  refine wq_spoil ?_
  simp only [WR, WO, WL, isBad, dvD, mapAtD, anyBT, Tgs.len, List.map_cons, List.map_nil, List.replicate, List.length_cons, List.length_nil, List.cons_append, List.nil_append, List.append_nil, Option.some.injEq, exists_eq_left', exists_eq_left, Option.map_some, Option.bind_some, wEq_int, wNe_int, wEq_bl, wNe_bl, D.bl.injEq, D.int.injEq, wipeD, and_true, true_and, Int.zero_add, Int.toNat_natCast, Bool.or_false, Bool.or_true, Bool.false_or, Bool.true_or, Bool.not_true, Bool.not_false, WRS]
  refine ⟨?_, ?_⟩
  · have sp := spo_mkP (c := c) q1 q2
    exact spo_top (memC sp (mem1 sp)) (by simp)
  refine wq_l ?_
  obtain ⟨g1, g2, g3⟩ := repr_ok p1.re w (by omega)
  simp only [WR, WO, WL, isBad, dvD, mapAtD, anyBT, Tgs.len, List.map_cons, List.map_nil, List.replicate, List.length_cons, List.length_nil, List.cons_append, List.nil_append, List.append_nil, Option.some.injEq, exists_eq_left', exists_eq_left, Option.map_some, Option.bind_some, wEq_int, wNe_int, wEq_bl, wNe_bl, D.bl.injEq, D.int.injEq, wipeD, and_true, true_and, Int.zero_add, Int.toNat_natCast, Bool.or_false, Bool.or_true, Bool.false_or, Bool.true_or, Bool.not_true, Bool.not_false, WQ, drop_flat, dropNew_re, small_trueL, Nat.reduceAdd, Nat.reduceLeDiff, Nat.zero_le]
  refine ⟨_, g1, g2, g3, wNe_str (ka_ok w (by omega)) ?_⟩
  simp only [WR, WO, WL, isBad, dvD, mapAtD, anyBT, Tgs.len, List.map_cons, List.map_nil, List.replicate, List.length_cons, List.length_nil, List.cons_append, List.nil_append, List.append_nil, Option.some.injEq, exists_eq_left', exists_eq_left, Option.map_some, Option.bind_some, wEq_int, wNe_int, wEq_bl, wNe_bl, D.bl.injEq, D.int.injEq, wipeD, and_true, true_and, Int.zero_add, Int.toNat_natCast, Bool.or_false, Bool.or_true, Bool.false_or, Bool.true_or, Bool.not_true, Bool.not_false, WQ]
  refine ⟨rng_n (by omega), small_line (by rw [List.length_map, List.length_range]; omega), ?_⟩
  refine part_of_ok (g := List.range rs.length) (d := d + 14) p1.re w (asc_range _) ?_
  rw [part_all w]
  have wa := w.all (by omega)
  refine same_fit (k := 3) (d := d + 16) (fit_P (mk_pr c rs) (by omega) fun r hr => (wa r hr).1) ?_ ?_
  · rw [D.re_re, PR.re_mk p1]
  simp only [WR, WO, WL, isBad, dvD, mapAtD, anyBT, Tgs.len, List.map_cons, List.map_nil, List.replicate, List.length_cons, List.length_nil, List.cons_append, List.nil_append, List.append_nil, Option.some.injEq, exists_eq_left', exists_eq_left, Option.map_some, Option.bind_some, wEq_int, wNe_int, wEq_bl, wNe_bl, D.bl.injEq, D.int.injEq, wipeD, and_true, true_and, Int.zero_add, Int.toNat_natCast, Bool.or_false, Bool.or_true, Bool.false_or, Bool.true_or, Bool.not_true, Bool.not_false, WQ]
  refine great_ok (d := d + 12) ?_
  simp only [WR, WO, WL, isBad, dvD, mapAtD, anyBT, Tgs.len, List.map_cons, List.map_nil, List.replicate, List.length_cons, List.length_nil, List.cons_append, List.nil_append, List.append_nil, Option.some.injEq, exists_eq_left', exists_eq_left, Option.map_some, Option.bind_some, wEq_int, wNe_int, wEq_bl, wNe_bl, D.bl.injEq, D.int.injEq, wipeD, and_true, true_and, Int.zero_add, Int.toNat_natCast, Bool.or_false, Bool.or_true, Bool.false_or, Bool.true_or, Bool.not_true, Bool.not_false, WQ]
  rw [wq_nil]
  trivial
theorem part_D {p c : Nat} {v : D} {rs : List (List Int)} (p1 : PR v c rs) (w : Wf c rs) (hr : rs.length ≤ 7) {ys : List D} (hp : Paired LotR ys (lotsN rs.length)) {t : Bool} (r7 r8 r10 : Option D) :
    wqSs (W (d + 20)) 27 (tl 5) [none, some (.pur p), some (.int (c : Int)), some v, some (.int (rs.length : Int)), some (.str (ka c rs)), some (.lst t ys), r7, r8, none, r10, none, none, none, none, none, none, none, none, none, none] lawEnds := by
  have one := w.one
  have four := w.four
  unfold tl dropS bodyS b_law
  simp only [dropS]
  have hl := Paired.len hp
  rw [lots_len] at hl
  have h2 := Nat.pow_le_pow_right (show 2 > 0 by decide) (show rs.length ≤ 7 by omega)
  have h3 : (2 : Nat) ^ 7 = 128 := by decide
  have h4 := Nat.one_le_two_pow (n := rs.length)
  -- greatest
  refine wq_l ?_
  simp only [WR, WO, WL, isBad, dvD, mapAtD, anyBT, Tgs.len, List.map_cons, List.map_nil, List.replicate, List.length_cons, List.length_nil, List.cons_append, List.nil_append, List.append_nil, Option.some.injEq, exists_eq_left', exists_eq_left, Option.map_some, Option.bind_some, wEq_int, wNe_int, wEq_bl, wNe_bl, D.bl.injEq, D.int.injEq, wipeD, and_true, true_and, Int.zero_add, Int.toNat_natCast, Bool.or_false, Bool.or_true, Bool.false_or, Bool.true_or, Bool.not_true, Bool.not_false, WQ]
  refine ⟨rng_n (by omega), rng_LF (by omega), lc_rngR (fun i y => ∃ m : Nat, y = .int (m : Int) ∧ Gr rs (i : Int) m) (by omega) (fun i hi K F k => ?_) fun zs hz hzs => ?_⟩
  · simp only [WR, WO, WL, isBad, dvD, mapAtD, anyBT, Tgs.len, List.map_cons, List.map_nil, List.replicate, List.length_cons, List.length_nil, List.cons_append, List.nil_append, List.append_nil, Option.some.injEq, exists_eq_left', exists_eq_left, Option.map_some, Option.bind_some, wEq_int, wNe_int, wEq_bl, wNe_bl, D.bl.injEq, D.int.injEq, wipeD, and_true, true_and, Int.zero_add, Int.toNat_natCast, Bool.or_false, Bool.or_true, Bool.false_or, Bool.true_or, Bool.not_true, Bool.not_false, WRS]
    exact greatest_ok (d := d + 17) p1 w (by omega) fun m hm => k _ ⟨m, rfl, hm⟩
  obtain ⟨ms, rfl, hms⟩ := nats_ofI (P := fun i m => Gr rs (i : Int) m) 0 fun i y hy => by rw [Nat.zero_add]; exact hzs i y hy
  have hms : ∀ i m : Nat, ms[i]? = some m → Gr rs (i : Int) m := fun i m h => by have := hms i m h; rw [Nat.zero_add] at this; exact this
  rw [gs_len] at hz
  -- sizes
  refine wq_l ?_
  simp only [WR, WO, WL, isBad, dvD, mapAtD, anyBT, Tgs.len, List.map_cons, List.map_nil, List.replicate, List.length_cons, List.length_nil, List.cons_append, List.nil_append, List.append_nil, Option.some.injEq, exists_eq_left', exists_eq_left, Option.map_some, Option.bind_some, wEq_int, wNe_int, wEq_bl, wNe_bl, D.bl.injEq, D.int.injEq, wipeD, and_true, true_and, Int.zero_add, Int.toNat_natCast, Bool.or_false, Bool.or_true, Bool.false_or, Bool.true_or, Bool.not_true, Bool.not_false, WQ]
  refine ⟨⟨by decide, by decide⟩, small_LF (by decide), ?_⟩
  refine for_inv (fun i δ => ∃ r8 r13 r14, δ = [none, some (.pur p), some (.int (c : Int)), some v, some (.int (rs.length : Int)), some (.str (ka c rs)), some (.lst t ys), r7, r8, none, r10, none, some (.lst true (gs ms)), r13, r14, none, none, none, none, none, none]) _ ?_ ?_ _ 0 _ (fun j => by rw [Nat.zero_add]) (by omega) ⟨_, _, _, rfl⟩
  · rintro i x δ hx ⟨r8, r13, r14, rfl⟩ K hK
    rw [wp_step]
    simp only [WR, WO, WL, isBad, dvD, mapAtD, anyBT, Tgs.len, List.map_cons, List.map_nil, List.replicate, List.length_cons, List.length_nil, List.cons_append, List.nil_append, List.append_nil, Option.some.injEq, exists_eq_left', exists_eq_left, Option.map_some, Option.bind_some, wEq_int, wNe_int, wEq_bl, wNe_bl, D.bl.injEq, D.int.injEq, wipeD, and_true, true_and, Int.zero_add, Int.toNat_natCast, Bool.or_false, Bool.or_true, Bool.false_or, Bool.true_or, Bool.not_true, Bool.not_false]
    refine ⟨rng_n (by omega), rng_LF (by omega), lc_rngR (fun i y => ∃ s : Nat, y = .int (s : Int) ∧ 1 ≤ s) (by omega) (fun i hi K F k => ?_) fun zs hz2 hzs => ?_⟩
    · simp only [WR, WO, WL, isBad, dvD, mapAtD, anyBT, Tgs.len, List.map_cons, List.map_nil, List.replicate, List.length_cons, List.length_nil, List.cons_append, List.nil_append, List.append_nil, Option.some.injEq, exists_eq_left', exists_eq_left, Option.map_some, Option.bind_some, wEq_int, wNe_int, wEq_bl, wNe_bl, D.bl.injEq, D.int.injEq, wipeD, and_true, true_and, Int.zero_add, Int.toNat_natCast, Bool.or_false, Bool.or_true, Bool.false_or, Bool.true_or, Bool.not_true, Bool.not_false, WRS]
      exact draw_int ⟨by omega, by omega⟩ fun s hs => k _ ⟨s + 1, by rw [show (1 : Int) + (s : Int) = ((s + 1 : Nat) : Int) by omega], by omega⟩
    obtain ⟨ss, rfl, hss⟩ := nats_of hzs
    rw [gs_len] at hz2
    rw [wp_step]
    simp only [WR, WO, WL, isBad, dvD, mapAtD, anyBT, Tgs.len, List.map_cons, List.map_nil, List.replicate, List.length_cons, List.length_nil, List.cons_append, List.nil_append, List.append_nil, Option.some.injEq, exists_eq_left', exists_eq_left, Option.map_some, Option.bind_some, wEq_int, wNe_int, wEq_bl, wNe_bl, D.bl.injEq, D.int.injEq, wipeD, and_true, true_and, Int.zero_add, Int.toNat_natCast, Bool.or_false, Bool.or_true, Bool.false_or, Bool.true_or, Bool.not_true, Bool.not_false]
    have zl := zip_len (gs ms) (gs ss)
    rw [gs_len] at zl
    refine ⟨small_LF (by omega), lc_det (fun z => .bl (ltD z)) _ (fun z hz K F k => ?_) (small_line (by omega)) ?_⟩
    · obtain ⟨a, b, rfl⟩ := zip_ii hz
      simp only [WR, WO, WL, isBad, dvD, mapAtD, anyBT, Tgs.len, List.map_cons, List.map_nil, List.replicate, List.length_cons, List.length_nil, List.cons_append, List.nil_append, List.append_nil, Option.some.injEq, exists_eq_left', exists_eq_left, Option.map_some, Option.bind_some, wEq_int, wNe_int, wEq_bl, wNe_bl, D.bl.injEq, D.int.injEq, wipeD, and_true, true_and, Int.zero_add, Int.toNat_natCast, Bool.or_false, Bool.or_true, Bool.false_or, Bool.true_or, Bool.not_true, Bool.not_false, WRS]
      exact k
    refine ⟨_, bls_of _ _, ?_⟩
    have hd : band ((zipD (gs ms) (gs ss)).map ltD) = true ↔ Free rs ss := by rw [zip_lt, free_of hz hz2 hms]
    generalize band ((zipD (gs ms) (gs ss)).map ltD) = due at hd ⊢
    rw [wp_step]
    simp only [WR, WO, WL, isBad, dvD, mapAtD, anyBT, Tgs.len, List.map_cons, List.map_nil, List.replicate, List.length_cons, List.length_nil, List.cons_append, List.nil_append, List.append_nil, Option.some.injEq, exists_eq_left', exists_eq_left, Option.map_some, Option.bind_some, wEq_int, wNe_int, wEq_bl, wNe_bl, D.bl.injEq, D.int.injEq, wipeD, and_true, true_and, Int.zero_add, Int.toNat_natCast, Bool.or_false, Bool.or_true, Bool.false_or, Bool.true_or, Bool.not_true, Bool.not_false]
    refine is_free_ok (d := d + 14) p1 w (by omega) hz2 hss fun b1 h1 => ?_
    have e1 : b1 = due := by rw [Bool.eq_iff_iff, h1, hd]
    subst e1
    refine is_free_ok (d := d + 14) p1 w (by omega) hz2 hss fun b2 h2 => ?_
    have e2 : b2 = b1 := by rw [Bool.eq_iff_iff, h2, hd]
    subst e2
    simp only [WR, WO, WL, isBad, dvD, mapAtD, anyBT, Tgs.len, List.map_cons, List.map_nil, List.replicate, List.length_cons, List.length_nil, List.cons_append, List.nil_append, List.append_nil, Option.some.injEq, exists_eq_left', exists_eq_left, Option.map_some, Option.bind_some, wEq_int, wNe_int, wEq_bl, wNe_bl, D.bl.injEq, D.int.injEq, wipeD, and_true, true_and, Int.zero_add, Int.toNat_natCast, Bool.or_false, Bool.or_true, Bool.false_or, Bool.true_or, Bool.not_true, Bool.not_false, small_trueL, Nat.reduceAdd, Nat.reduceLeDiff, Nat.zero_le]
    refine same_fit (k := 1) (d := d + 18) (Fit.lst (by simp) (memC (Fit.bl _) (mem1 (Fit.bl _)))) rfl ?_
    simp only [WR, WO, WL, isBad, dvD, mapAtD, anyBT, Tgs.len, List.map_cons, List.map_nil, List.replicate, List.length_cons, List.length_nil, List.cons_append, List.nil_append, List.append_nil, Option.some.injEq, exists_eq_left', exists_eq_left, Option.map_some, Option.bind_some, wEq_int, wNe_int, wEq_bl, wNe_bl, D.bl.injEq, D.int.injEq, wipeD, and_true, true_and, Int.zero_add, Int.toNat_natCast, Bool.or_false, Bool.or_true, Bool.false_or, Bool.true_or, Bool.not_true, Bool.not_false]
    rw [wp_nil]
    exact hK _ ⟨_, _, _, rfl⟩
  · rintro δ ⟨r8, r13, r14, rfl⟩
    dsimp only
    refine wq_l ?_
    simp only [WR, WO, WL, isBad, dvD, mapAtD, anyBT, Tgs.len, List.map_cons, List.map_nil, List.replicate, List.length_cons, List.length_nil, List.cons_append, List.nil_append, List.append_nil, Option.some.injEq, exists_eq_left', exists_eq_left, Option.map_some, Option.bind_some, wEq_int, wNe_int, wEq_bl, wNe_bl, D.bl.injEq, D.int.injEq, wipeD, and_true, true_and, Int.zero_add, Int.toNat_natCast, Bool.or_false, Bool.or_true, Bool.false_or, Bool.true_or, Bool.not_true, Bool.not_false, WQ]
    refine ⟨by rw [gs_len]; exact small_LF (by omega), gs_lc (fun a => .int ((a : Int) + 1)) ms (by omega) (fun a ha K F k => ?_) ?_⟩
    · simp only [WR, WO, WL, isBad, dvD, mapAtD, anyBT, Tgs.len, List.map_cons, List.map_nil, List.replicate, List.length_cons, List.length_nil, List.cons_append, List.nil_append, List.append_nil, Option.some.injEq, exists_eq_left', exists_eq_left, Option.map_some, Option.bind_some, wEq_int, wNe_int, wEq_bl, wNe_bl, D.bl.injEq, D.int.injEq, wipeD, and_true, true_and, Int.zero_add, Int.toNat_natCast, Bool.or_false, Bool.or_true, Bool.false_or, Bool.true_or, Bool.not_true, Bool.not_false, WRS]
      exact k
    have em : ms.map (fun a : Nat => D.int ((a : Int) + 1)) = gs (ms.map (· + 1)) := by
      unfold gs
      rw [List.map_map]
      rfl
    rw [em]
    refine is_free_ok (d := d + 14) p1 w (by omega) (by rw [List.length_map]; exact hz) (fun s hs => ?_) fun b hb => ?_
    · obtain ⟨a, _, rfl⟩ := List.mem_map.mp hs
      omega
    have hb : b = true := by
      rw [hb, free_of hz (by rw [List.length_map]; exact hz) hms]
      intro i m s h1 h2
      rw [List.getElem?_map, h1] at h2
      cases h2
      exact Nat.lt_succ_self m
    subst hb
    simp only [WR, WO, WL, isBad, dvD, mapAtD, anyBT, Tgs.len, List.map_cons, List.map_nil, List.replicate, List.length_cons, List.length_nil, List.cons_append, List.nil_append, List.append_nil, Option.some.injEq, exists_eq_left', exists_eq_left, Option.map_some, Option.bind_some, wEq_int, wNe_int, wEq_bl, wNe_bl, D.bl.injEq, D.int.injEq, wipeD, and_true, true_and, Int.zero_add, Int.toNat_natCast, Bool.or_false, Bool.or_true, Bool.false_or, Bool.true_or, Bool.not_true, Bool.not_false, WQ]
    rw [wq_nil]
    refine wq_l ?_
    simp only [WR, WO, WL, isBad, dvD, mapAtD, anyBT, Tgs.len, List.map_cons, List.map_nil, List.replicate, List.length_cons, List.length_nil, List.cons_append, List.nil_append, List.append_nil, Option.some.injEq, exists_eq_left', exists_eq_left, Option.map_some, Option.bind_some, wEq_int, wNe_int, wEq_bl, wNe_bl, D.bl.injEq, D.int.injEq, wipeD, and_true, true_and, Int.zero_add, Int.toNat_natCast, Bool.or_false, Bool.or_true, Bool.false_or, Bool.true_or, Bool.not_true, Bool.not_false, WQ]
    refine one_of_ok (d := d + 19) ⟨by omega, by omega⟩ fun y hy => ?_
    obtain ⟨j, hj⟩ := List.getElem?_of_mem hy
    obtain ⟨g, hg, t', rfl⟩ := Paired.at1 hp hj
    have ga := lots_asc (List.mem_of_getElem? hg)
    have gl := ga.len
    refine wq_l ?_
    simp only [WR, WO, WL, isBad, dvD, mapAtD, anyBT, Tgs.len, List.map_cons, List.map_nil, List.replicate, List.length_cons, List.length_nil, List.cons_append, List.nil_append, List.append_nil, Option.some.injEq, exists_eq_left', exists_eq_left, Option.map_some, Option.bind_some, wEq_int, wNe_int, wEq_bl, wNe_bl, D.bl.injEq, D.int.injEq, wipeD, and_true, true_and, Int.zero_add, Int.toNat_natCast, Bool.or_false, Bool.or_true, Bool.false_or, Bool.true_or, Bool.not_true, Bool.not_false, WQ, gs_len]
    refine ⟨rng_n (by omega), rng_LF (by omega), lc_rng (fun i => .lst true (((g.take i).map fun l => col rs (g.getD i 0) l).map .int)) (by omega) (fun i hi K F k => ?_) ?_⟩
    · simp only [WR, WO, WL, isBad, dvD, mapAtD, anyBT, Tgs.len, List.map_cons, List.map_nil, List.replicate, List.length_cons, List.length_nil, List.cons_append, List.nil_append, List.append_nil, Option.some.injEq, exists_eq_left', exists_eq_left, Option.map_some, Option.bind_some, wEq_int, wNe_int, wEq_bl, wNe_bl, D.bl.injEq, D.int.injEq, wipeD, and_true, true_and, Int.zero_add, Int.toNat_natCast, Bool.or_false, Bool.or_true, Bool.false_or, Bool.true_or, Bool.not_true, Bool.not_false, WRS]
      have ei := List.getElem?_eq_getElem hi
      refine ⟨rng_n (by omega), rng_LF (by omega), lc_rng (fun l => .int (col rs (g.getD i 0) (g.getD l 0))) (by omega) (fun l hl K F k => ?_) ?_⟩
      · have el := List.getElem?_eq_getElem (show l < g.length by omega)
        rw [List.getD_eq_getElem?_getD, ei, List.getD_eq_getElem?_getD, el] at k
        simp only [WR, WO, WL, isBad, dvD, mapAtD, anyBT, Tgs.len, List.map_cons, List.map_nil, List.replicate, List.length_cons, List.length_nil, List.cons_append, List.nil_append, List.append_nil, Option.some.injEq, exists_eq_left', exists_eq_left, Option.map_some, Option.bind_some, wEq_int, wNe_int, wEq_bl, wNe_bl, D.bl.injEq, D.int.injEq, wipeD, and_true, true_and, Int.zero_add, Int.toNat_natCast, Bool.or_false, Bool.or_true, Bool.false_or, Bool.true_or, Bool.not_true, Bool.not_false, WRS, atA_nat, gs_get, ei, el]
        have lt := (List.pairwise_iff_getElem.mp ga.lt) l i (by omega) hi hl
        exact law_colour_ok (d := d + 19) p1 w (ga.all _ (List.getElem_mem _)) (ga.all _ (List.getElem_mem _)) (by omega) k
      · rw [take_map _ _ _ (Nat.le_of_lt hi), List.map_map] at k
        exact k
    refine ⟨small_line (by decide), ?_⟩
    have ep : D.tup [.int (c : Int), .lst true ((List.range g.length).map fun i => .lst true (((g.take i).map fun l => col rs (g.getD i 0) l).map .int))] = mkP c (partR rs g) := by
      unfold mkP mkR partR
      rw [List.map_map]
      rfl
    rw [ep]
    exact part_E p1 w hr ga _ _ _ _ _ _ _ _ _ _ _ _ _
end K03
end MP
namespace MP
open PySem
namespace K03
open MP.D
variable {d : Nat} {Q : D → Prop}
theorem part_C {p c : Nat} {v : D} {rs : List (List Int)} (p1 : PR v c rs) (w : Wf c rs) (hr : rs.length ≤ 7) {ys : List D} (hp : Paired LotR ys (lotsN rs.length)) {t : Bool} :
    wqSs (W (d + 20)) 27 (tl 4) [none, some (.pur p), some (.int (c : Int)), some v, some (.int (rs.length : Int)), some (.str (ka c rs)), some (.lst t ys), none, none, none, none, none, none, none, none, none, none, none, none, none, none] lawEnds := by
  have one := w.one
  have four := w.four
  have et : tl 4 = .cons (match tl 4 with | .cons s _ => s | _ => .bad) (tl 5) := rfl
  rw [et]
  refine wq_l ?_
  unfold tl dropS bodyS b_law
  simp only [dropS]
  have hl := Paired.len hp
  rw [lots_len] at hl
  have h2 := Nat.pow_le_pow_right (show 2 > 0 by decide) (show rs.length ≤ 7 by omega)
  have h3 : (2 : Nat) ^ 7 = 128 := by decide
  have h4 := Nat.one_le_two_pow (n := rs.length)
  simp only [WR, WO, WL, isBad, dvD, mapAtD, anyBT, Tgs.len, List.map_cons, List.map_nil, List.replicate, List.length_cons, List.length_nil, List.cons_append, List.nil_append, List.append_nil, Option.some.injEq, exists_eq_left', exists_eq_left, Option.map_some, Option.bind_some, wEq_int, wNe_int, wEq_bl, wNe_bl, D.bl.injEq, D.int.injEq, wipeD, and_true, true_and, Int.zero_add, Int.toNat_natCast, Bool.or_false, Bool.or_true, Bool.false_or, Bool.true_or, Bool.not_true, Bool.not_false, WQ]
  refine ⟨rng_n (by omega), rng_LF (by omega), ?_⟩
  refine for_inv (fun i δ => ∃ r7 r8 r10, δ = [none, some (.pur p), some (.int (c : Int)), some v, some (.int (rs.length : Int)), some (.str (ka c rs)), some (.lst t ys), r7, r8, none, r10, none, none, none, none, none, none, none, none, none, none]) _ ?_ ?_ _ 0 _ (fun j => by rw [Nat.zero_add]) (by omega) ⟨_, _, _, rfl⟩
  · rintro x y δ hy ⟨r7, r8, r10, rfl⟩ K hK
    obtain ⟨hxc, rfl⟩ := rng_get hy
    have hx : 0 ≤ (x : Int) ∧ (x : Int) < (c : Int) := by omega
    rw [wp_step]
    simp only [WR, WO, WL, isBad, dvD, mapAtD, anyBT, Tgs.len, List.map_cons, List.map_nil, List.replicate, List.length_cons, List.length_nil, List.cons_append, List.nil_append, List.append_nil, Option.some.injEq, exists_eq_left', exists_eq_left, Option.map_some, Option.bind_some, wEq_int, wNe_int, wEq_bl, wNe_bl, D.bl.injEq, D.int.injEq, wipeD, and_true, true_and, Int.zero_add, Int.toNat_natCast, Bool.or_false, Bool.or_true, Bool.false_or, Bool.true_or, Bool.not_true, Bool.not_false]
    refine ⟨small_LF (by omega), lc_pd (fun l => .bl (crowdB rs (x : Int) l)) hp (fun y l hr hb K F k => ?_) (small_line (by omega)) ?_⟩
    · obtain ⟨t, rfl⟩ := hr
      simp only [WR, WO, WL, isBad, dvD, mapAtD, anyBT, Tgs.len, List.map_cons, List.map_nil, List.replicate, List.length_cons, List.length_nil, List.cons_append, List.nil_append, List.append_nil, Option.some.injEq, exists_eq_left', exists_eq_left, Option.map_some, Option.bind_some, wEq_int, wNe_int, wEq_bl, wNe_bl, D.bl.injEq, D.int.injEq, wipeD, and_true, true_and, Int.zero_add, Int.toNat_natCast, Bool.or_false, Bool.or_true, Bool.false_or, Bool.true_or, Bool.not_true, Bool.not_false, WRS]
      exact law_crowd_ok (d := d + 18) p1 w (lots_asc hb) k
    rw [wp_step]
    simp only [WR, WO, WL, isBad, dvD, mapAtD, anyBT, Tgs.len, List.map_cons, List.map_nil, List.replicate, List.length_cons, List.length_nil, List.cons_append, List.nil_append, List.append_nil, Option.some.injEq, exists_eq_left', exists_eq_left, Option.map_some, Option.bind_some, wEq_int, wNe_int, wEq_bl, wNe_bl, D.bl.injEq, D.int.injEq, wipeD, and_true, true_and, Int.zero_add, Int.toNat_natCast, Bool.or_false, Bool.or_true, Bool.false_or, Bool.true_or, Bool.not_true, Bool.not_false]
    refine ⟨small_LF (by omega), lc_pd (fun l => .bl (crowdB rs (x : Int) l)) hp (fun y l hr hb K F k => ?_) (small_line (by omega)) ?_⟩
    · obtain ⟨t, rfl⟩ := hr
      simp only [WR, WO, WL, isBad, dvD, mapAtD, anyBT, Tgs.len, List.map_cons, List.map_nil, List.replicate, List.length_cons, List.length_nil, List.cons_append, List.nil_append, List.append_nil, Option.some.injEq, exists_eq_left', exists_eq_left, Option.map_some, Option.bind_some, wEq_int, wNe_int, wEq_bl, wNe_bl, D.bl.injEq, D.int.injEq, wipeD, and_true, true_and, Int.zero_add, Int.toNat_natCast, Bool.or_false, Bool.or_true, Bool.false_or, Bool.true_or, Bool.not_true, Bool.not_false, WRS]
      exact is_crowd_ok (d := d + 14) p1 w (lots_asc hb) hx k
    refine same_fit (k := 1) (d := d + 18) (Fit.lst (by rw [List.length_map, lots_len]; omega) fun z hz => ?_) rfl ?_
    · obtain ⟨l, _, rfl⟩ := List.mem_map.mp hz
      exact Fit.bl _
    have hn : (lotsN rs.length).length - 1 < (lotsN rs.length).length := by rw [lots_len]; omega
    have hla := List.getElem?_eq_getElem hn
    obtain ⟨yl, hy1, t', rfl⟩ := Paired.at2 hp hla
    have hy2 : ys[ys.length - 1]? = some (.lst t' (gs (lotsN rs.length)[(lotsN rs.length).length - 1])) := by rw [Paired.len hp]; exact hy1
    have hga := lots_asc (List.getElem_mem hn)
    simp only [WR, WO, WL, isBad, dvD, mapAtD, anyBT, Tgs.len, List.map_cons, List.map_nil, List.replicate, List.length_cons, List.length_nil, List.cons_append, List.nil_append, List.append_nil, Option.some.injEq, exists_eq_left', exists_eq_left, Option.map_some, Option.bind_some, wEq_int, wNe_int, wEq_bl, wNe_bl, D.bl.injEq, D.int.injEq, wipeD, and_true, true_and, Int.zero_add, Int.toNat_natCast, Bool.or_false, Bool.or_true, Bool.false_or, Bool.true_or, Bool.not_true, Bool.not_false, atA_last, hy2]
    refine is_crowd_ok (d := d + 14) p1 w hga hx ?_
    simp only [WR, WO, WL, isBad, dvD, mapAtD, anyBT, Tgs.len, List.map_cons, List.map_nil, List.replicate, List.length_cons, List.length_nil, List.cons_append, List.nil_append, List.append_nil, Option.some.injEq, exists_eq_left', exists_eq_left, Option.map_some, Option.bind_some, wEq_int, wNe_int, wEq_bl, wNe_bl, D.bl.injEq, D.int.injEq, wipeD, and_true, true_and, Int.zero_add, Int.toNat_natCast, Bool.or_false, Bool.or_true, Bool.false_or, Bool.true_or, Bool.not_true, Bool.not_false, List.length_map, List.getElem?_map, hla]
    refine same_fit (k := 0) (d := d + 19) (Fit.bl _) rfl ?_
    simp only [WR, WO, WL, isBad, dvD, mapAtD, anyBT, Tgs.len, List.map_cons, List.map_nil, List.replicate, List.length_cons, List.length_nil, List.cons_append, List.nil_append, List.append_nil, Option.some.injEq, exists_eq_left', exists_eq_left, Option.map_some, Option.bind_some, wEq_int, wNe_int, wEq_bl, wNe_bl, D.bl.injEq, D.int.injEq, wipeD, and_true, true_and, Int.zero_add, Int.toNat_natCast, Bool.or_false, Bool.or_true, Bool.false_or, Bool.true_or, Bool.not_true, Bool.not_false]
    rw [wp_nil]
    dsimp only
    rw [wp_step]
    simp only [WR, WO, WL, isBad, dvD, mapAtD, anyBT, Tgs.len, List.map_cons, List.map_nil, List.replicate, List.length_cons, List.length_nil, List.cons_append, List.nil_append, List.append_nil, Option.some.injEq, exists_eq_left', exists_eq_left, Option.map_some, Option.bind_some, wEq_int, wNe_int, wEq_bl, wNe_bl, D.bl.injEq, D.int.injEq, wipeD, and_true, true_and, Int.zero_add, Int.toNat_natCast, Bool.or_false, Bool.or_true, Bool.false_or, Bool.true_or, Bool.not_true, Bool.not_false, small_trueL, Nat.reduceAdd, Nat.reduceLeDiff, Nat.zero_le]
    rw [wp_step]
    simp only [WR, WO, WL, isBad, dvD, mapAtD, anyBT, Tgs.len, List.map_cons, List.map_nil, List.replicate, List.length_cons, List.length_nil, List.cons_append, List.nil_append, List.append_nil, Option.some.injEq, exists_eq_left', exists_eq_left, Option.map_some, Option.bind_some, wEq_int, wNe_int, wEq_bl, wNe_bl, D.bl.injEq, D.int.injEq, wipeD, and_true, true_and, Int.zero_add, Int.toNat_natCast, Bool.or_false, Bool.or_true, Bool.false_or, Bool.true_or, Bool.not_true, Bool.not_false, small_trueL, Nat.reduceAdd, Nat.reduceLeDiff, Nat.zero_le]
    refine ⟨small_LF (by decide), lc_filt (fun _ => false) id _ [] (fun z hz K F k => ?_) (by show 0 + 13 ≤ lineN; exact small_line (by decide)) ?_⟩
    · have hb : z.okD = true ∧ agB (rs.length : Int) z = false := by
        simp only [List.mem_cons, List.not_mem_nil, or_false] at hz
        rcases hz with e | e | e | e | e | e | e | e | e | e | e | e | e <;> subst e
        · exact ⟨rfl, rfl⟩
        · exact ⟨rfl, rfl⟩
        · exact ⟨by decide +kernel, rfl⟩
        · exact ⟨rfl, rfl⟩
        · refine ⟨rfl, ?_⟩
          show ((decide (0 ≤ (rs.length : Int)) && decide ((rs.length : Int) < (rs.length : Int))) && true && _) = false
          rw [decide_eq_false (show ¬ (rs.length : Int) < (rs.length : Int) by omega), Bool.and_false]
          rfl
        · exact ⟨rfl, rfl⟩
        · exact ⟨rfl, rfl⟩
        · exact ⟨rfl, rfl⟩
        · exact ⟨by decide +kernel, rfl⟩
        · refine ⟨rfl, ?_⟩
          show (_ && (decide ((0 : Int) < 0) && true)) = false
          rw [decide_eq_false (by decide), Bool.false_and, Bool.and_false]
        · exact ⟨rfl, rfl⟩
        · refine ⟨rfl, ?_⟩
          show (_ && (decide ((1 : Int) < 0) && true)) = false
          rw [decide_eq_false (by decide), Bool.false_and, Bool.and_false]
        · exact ⟨rfl, rfl⟩
      simp only [WR, WO, WL, isBad, dvD, mapAtD, anyBT, Tgs.len, List.map_cons, List.map_nil, List.replicate, List.length_cons, List.length_nil, List.cons_append, List.nil_append, List.append_nil, Option.some.injEq, exists_eq_left', exists_eq_left, Option.map_some, Option.bind_some, wEq_int, wNe_int, wEq_bl, wNe_bl, D.bl.injEq, D.int.injEq, wipeD, and_true, true_and, Int.zero_add, Int.toNat_natCast, Bool.or_false, Bool.or_true, Bool.false_or, Bool.true_or, Bool.not_true, Bool.not_false, WRS]
      refine is_crowd_no (d := d + 14) p1 w hb.1 hb.2 hx ?_
      simp only [WR, WO, WL, isBad, dvD, mapAtD, anyBT, Tgs.len, List.map_cons, List.map_nil, List.replicate, List.length_cons, List.length_nil, List.cons_append, List.nil_append, List.append_nil, Option.some.injEq, exists_eq_left', exists_eq_left, Option.map_some, Option.bind_some, wEq_int, wNe_int, wEq_bl, wNe_bl, D.bl.injEq, D.int.injEq, wipeD, and_true, true_and, Int.zero_add, Int.toNat_natCast, Bool.or_false, Bool.or_true, Bool.false_or, Bool.true_or, Bool.not_true, Bool.not_false, WRS]
      exact k
    · rw [List.filter_eq_nil_iff.mpr (fun _ _ h => by cases h)]
      refine ⟨_, _, rfl, rfl, rfl, rfl, ?_⟩
      simp only [WR, WO, WL, isBad, dvD, mapAtD, anyBT, Tgs.len, List.map_cons, List.map_nil, List.replicate, List.length_cons, List.length_nil, List.cons_append, List.nil_append, List.append_nil, Option.some.injEq, exists_eq_left', exists_eq_left, Option.map_some, Option.bind_some, wEq_int, wNe_int, wEq_bl, wNe_bl, D.bl.injEq, D.int.injEq, wipeD, and_true, true_and, Int.zero_add, Int.toNat_natCast, Bool.or_false, Bool.or_true, Bool.false_or, Bool.true_or, Bool.not_true, Bool.not_false, show PyData.eqv (.list []) (.list []) = true from rfl]
      rw [wp_nil]
      dsimp only
      rw [wp_nil]
      exact hK _ ⟨_, _, _, rfl⟩
  · rintro δ ⟨r7, r8, r10, rfl⟩
    exact part_D p1 w hr hp _ _ _
theorem part_A (p : Nat) : wqSs (W (d + 20)) 27 (tl 0) (lawEnv 21 p) lawEnds := by
  unfold tl dropS bodyS b_law lawEnv
  simp only [dropS]
  refine wq_l ?_
  simp only [WR, WO, WL, isBad, dvD, mapAtD, anyBT, Tgs.len, List.map_cons, List.map_nil, List.replicate, List.length_cons, List.length_nil, List.cons_append, List.nil_append, List.append_nil, Option.some.injEq, exists_eq_left', exists_eq_left, Option.map_some, Option.bind_some, wEq_int, wNe_int, wEq_bl, wNe_bl, D.bl.injEq, D.int.injEq, wipeD, and_true, true_and, Int.zero_add, Int.toNat_natCast, Bool.or_false, Bool.or_true, Bool.false_or, Bool.true_or, Bool.not_true, Bool.not_false, WQ]
  refine draw_int ⟨by omega, by omega⟩ fun c0 hc0 => ?_
  obtain ⟨c, hc, e1⟩ : ∃ c : Nat, (1 ≤ c ∧ c ≤ 4) ∧ (1 : Int) + (c0 : Int) = (c : Int) := ⟨c0 + 1, by omega, by omega⟩
  simp only [WR, WO, WL, isBad, dvD, mapAtD, anyBT, Tgs.len, List.map_cons, List.map_nil, List.replicate, List.length_cons, List.length_nil, List.cons_append, List.nil_append, List.append_nil, Option.some.injEq, exists_eq_left', exists_eq_left, Option.map_some, Option.bind_some, wEq_int, wNe_int, wEq_bl, wNe_bl, D.bl.injEq, D.int.injEq, wipeD, and_true, true_and, Int.zero_add, Int.toNat_natCast, Bool.or_false, Bool.or_true, Bool.false_or, Bool.true_or, Bool.not_true, Bool.not_false, WQ, e1]
  refine wq_l ?_
  simp only [WR, WO, WL, isBad, dvD, mapAtD, anyBT, Tgs.len, List.map_cons, List.map_nil, List.replicate, List.length_cons, List.length_nil, List.cons_append, List.nil_append, List.append_nil, Option.some.injEq, exists_eq_left', exists_eq_left, Option.map_some, Option.bind_some, wEq_int, wNe_int, wEq_bl, wNe_bl, D.bl.injEq, D.int.injEq, wipeD, and_true, true_and, Int.zero_add, Int.toNat_natCast, Bool.or_false, Bool.or_true, Bool.false_or, Bool.true_or, Bool.not_true, Bool.not_false, WQ]
  refine draw_int ⟨by omega, by omega⟩ fun m hm => ?_
  refine party_ok (d := d + 19) (by omega) hc fun v rs p1 w hr => ?_
  refine wq_l ?_
  have p0 := p1
  obtain ⟨t, ds, rfl, pr⟩ := p0
  have e1 : atA [D.int (c : Int), .lst t ds] 1 = some (.lst t ds) := rfl
  obtain ⟨g1, g2, g3⟩ := repr_ok p1 w (by omega)
  simp only [WR, WO, WL, isBad, dvD, mapAtD, anyBT, Tgs.len, List.map_cons, List.map_nil, List.replicate, List.length_cons, List.length_nil, List.cons_append, List.nil_append, List.append_nil, Option.some.injEq, exists_eq_left', exists_eq_left, Option.map_some, Option.bind_some, wEq_int, wNe_int, wEq_bl, wNe_bl, D.bl.injEq, D.int.injEq, wipeD, and_true, true_and, Int.zero_add, Int.toNat_natCast, Bool.or_false, Bool.or_true, Bool.false_or, Bool.true_or, Bool.not_true, Bool.not_false, WQ, e1, Paired.len pr]
  refine ⟨pd c rs, g1, g2, g3, ?_⟩
  refine wq_l ?_
  simp only [WR, WO, WL, isBad, dvD, mapAtD, anyBT, Tgs.len, List.map_cons, List.map_nil, List.replicate, List.length_cons, List.length_nil, List.cons_append, List.nil_append, List.append_nil, Option.some.injEq, exists_eq_left', exists_eq_left, Option.map_some, Option.bind_some, wEq_int, wNe_int, wEq_bl, wNe_bl, D.bl.injEq, D.int.injEq, wipeD, and_true, true_and, Int.zero_add, Int.toNat_natCast, Bool.or_false, Bool.or_true, Bool.false_or, Bool.true_or, Bool.not_true, Bool.not_false, WQ]
  refine lots_ok (d := d + 19) (by omega) fun ys hys => ?_
  exact part_C p1 w (by omega) hys
def ks : Nat → Nat := fun f => if f = 21 then 2 else 0
theorem sp_ok (C : Wc) : SpOk C TT sp ks 2 := fun f w e dd xs Q vs S b hw i p hb => by
  unfold sp at e
  by_cases h : f = 21
  · subst h
    rw [if_pos rfl] at e
    cases e
    exact draw_spec (f := 21) (g := 20) rfl rfl dd hw i p hb
  · rw [if_neg h] at e
    cases e
theorem plain (ns : List Int) : ∃ S, calls TT 40 34 [.ref 0] (sto0 ns) = .ok (.bl true) S := by
  refine law_gen (wc := W 37) (kf := kcl TT sp ks 37) (few := 2) (dp := 37) (sf := 27) (pf := 25) (pg := 19) (nn := 21) (bb := tl 0) (fun C => wclO_snd sp_ok 37 C) rfl rfl rfl rfl (by decide) (by decide) ?_ (by decide) (fun p => part_A (d := 17) p) ns
  exact cost_ok (fun f => by unfold ks; split <;> omega) (by decide +kernel) (by decide +kernel) (by decide) (by decide)
end K03
end MP
theorem PySem.Challenge.cw_boundtobe_k03_whole_crowds_judged_holds : PySem.Challenge.rw_boundtobe_k03_whole_crowds_judged.Holds := by
  exact the_law_of (by decide +kernel) fun ns _ => MP.K03.plain ns
