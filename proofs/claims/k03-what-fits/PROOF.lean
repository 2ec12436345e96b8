import PyProof.Rows.All
import HandS.ForMost
import HandS.TupSets
import HandS.Keys
import HandS.Dict
import HandS.RaiseMore
import HandS.IsInst
import HandS.TupAny
import HandS.Style
import HandS.Comp
import HandS.Set
import HandS.SetFor
import HandS.Strs
import KE.GoesMore
import PyProof.Draws
import PyProof.EnumMake
import HandS.NoneIn
import HandS.Walk
import HandS.Codes
import HandS.Exc
import HandS.Defaults
import HandS.Words
import Wide.All
import OpenK.AllK
import Wide.FinOn
import KE.KStateDown
import Lean
import HandS.More
import HandS.WordsExc
import HandS.Head0
import HandS.Head1
import HandS.Head2
import HandS.HeadEnd
import HandS.HeadHook1
import HandS.HeadHook2
import HandS.HeadHook3
import KE.KIntText
import PySem.Challenge.RW_turnstack_k03_what_fits
set_option Elab.async false
set_option linter.all false
set_option maxRecDepth 100000
set_option maxHeartbeats 0
/-! TK, part 1: data without a heap, a small language, what it computes. Own work. -/
namespace TK
open PySem (Str)
abbrev Key := L2.Key
inductive Kd
  | tup | lst | scr | kt
  | dK (ks : List Key) | dT (ks : List (List Key))
  | ins (c : Nat) (ns : List Str)
  deriving DecidableEq
inductive D
  | non | bl (b : Bool) | int (i : Int) | str (x : Str)
  | nd (k : Kd) (o : Bool) (xs : List D)
abbrev D.tup (xs : List D) : D := .nd .tup false xs
abbrev D.fl (xs : List D) : D := .nd .lst false xs
abbrev D.ol (xs : List D) : D := .nd .lst true xs
/-- nothing of it is owned -/
@[simp] def D.fz : D → Bool
  | .non => true | .bl _ => true | .int _ => true | .str _ => true
  | .nd _ o xs => !o && fzs xs
where
  @[simp] fzs : List D → Bool
  | [] => true
  | x :: xs => x.fz && fzs xs
abbrev fzs := D.fz.fzs
@[simp] def D.fr : D → D
  | .non => .non | .bl b => .bl b | .int i => .int i | .str x => .str x
  | .nd k _ xs => .nd k false (frs xs)
where
  @[simp] frs : List D → List D
  | [] => []
  | x :: xs => x.fr :: frs xs
abbrev frs := D.fr.frs
mutual
theorem D.fz_fr : ∀ d : D, d.fr.fz = true
  | .non => rfl | .bl _ => rfl | .int _ => rfl | .str _ => rfl
  | .nd k o xs => by simp [fzs_frs xs]
theorem fzs_frs : ∀ ds : List D, fzs (frs ds) = true
  | [] => rfl
  | x :: xs => by simp [D.fz_fr x, fzs_frs xs]
end
mutual
theorem D.fr_fz : ∀ d : D, d.fz = true → d.fr = d
  | .non, _ => rfl | .bl _, _ => rfl | .int _, _ => rfl | .str _, _ => rfl
  | .nd k o xs, h => by
    simp only [D.fz, Bool.and_eq_true, Bool.not_eq_true'] at h
    simp only [D.fr, h.1, frs_fz xs h.2]
theorem frs_fz : ∀ ds : List D, fzs ds = true → frs ds = ds
  | [], _ => rfl
  | x :: xs, h => by
    simp only [D.fz.fzs, Bool.and_eq_true] at h
    simp only [D.fr.frs, D.fr_fz x h.1, frs_fz xs h.2]
end
/-! ### places -/
abbrev sLine : Nat := 16777216
def ixP (n : Nat) (i : Int) : Option Nat := if 0 ≤ i then (if i < n then some i.toNat else none) else if -(n : Int) ≤ i then some (i + n).toNat else none
def sIxP (n d : Nat) : Option Int → Nat
  | none => d
  | some v => if v < 0 then (v + (n : Int)).toNat else min v.toNat n
def cutP {α : Type} (xs : List α) (lo hi : Option Int) : List α := (xs.drop (sIxP xs.length 0 lo)).take (sIxP xs.length xs.length hi - sIxP xs.length 0 lo)
def optI : Option D → Option (Option Int)
  | none => some none
  | some (.int i) => some (some i)
  | _ => none
/-! ### views -/
def asTup : D → Option (List D)
  | .nd .tup _ xs => some xs
  | .nd .kt _ xs => some xs
  | _ => none
def asSeq : D → Option (List D)
  | .nd .tup _ xs => some xs
  | .nd .kt _ xs => some xs
  | .nd .lst _ xs => some xs
  | .nd .scr _ xs => some xs
  | _ => none
/-! ### dicts -/
def keyOf : D → Option Key
  | .int i => some (.inl i)
  | .str z => some (.inr z)
  | _ => none
def keysOf : List D → Option (List Key)
  | [] => some []
  | x :: r => match keyOf x, keysOf r with
    | some k, some ks => some (k :: ks)
    | _, _ => none
/-- where a key stands -/
def dctIx : Kd → D → Option (Option Nat)
  | .dK ks, k => match keyOf k with
    | some q => some (ks.findIdx? (· = q))
    | none => none
  | .dT ks, k => match k with
    | .nd .tup false ys => match keysOf ys with
      | some q => some (ks.findIdx? (· = q))
      | none => none
    | _ => none
  | _, _ => none
def kvsOf : List D → Option (List (Key × D))
  | [] => some []
  | x :: r => match x with
    | .nd .tup false [a, b] => match keyOf a, kvsOf r with
      | some k, some ps => some ((k, b) :: ps)
      | _, _ => none
    | _ => none
/-! ### equality -/
/-- 1 a tuple, 2 a list, 0 none of these -/
def Kd.sq : Kd → Nat
  | .tup => 1 | .kt => 1 | .lst => 2 | _ => 0
def eqS : D → D → Option Bool
  | .non, .non => some true
  | .non, .bl _ => some false | .non, .int _ => some false | .non, .str _ => some false
  | .bl a, .bl b => some (a == b)
  | .bl a, .int j => some ((if a then 1 else 0) == j)
  | .bl _, .non => some false | .bl _, .str _ => some false
  | .int i, .int j => some (i == j)
  | .int i, .bl b => some (i == (if b then 1 else 0))
  | .int _, .non => some false | .int _, .str _ => some false
  | .str x, .str y => some (x == y)
  | .str _, .non => some false | .str _, .bl _ => some false | .str _, .int _ => some false
  | .nd k _ _, .non => if k.sq = 0 then none else some false
  | .nd k _ _, .bl _ => if k.sq = 0 then none else some false
  | .nd k _ _, .int _ => if k.sq = 0 then none else some false
  | .nd k _ _, .str _ => if k.sq = 0 then none else some false
  | .non, .nd k _ _ => if k.sq = 0 then none else some false
  | .bl _, .nd k _ _ => if k.sq = 0 then none else some false
  | .int _, .nd k _ _ => if k.sq = 0 then none else some false
  | .str _, .nd k _ _ => if k.sq = 0 then none else some false
  | .nd _ _ _, .nd _ _ _ => none
/-- two frozen instances of one tag -/
def tagEq : D → D → Bool
  | .nd (.ins c _) false _, .nd (.ins d _) false _ => decide (c = d ∧ 1000 ≤ c)
  | _, _ => false
def eqi (f : D → D → Option Bool) (x y : D) : Option Bool := if tagEq x y then some true else f x y
def eqs (f : D → D → Option Bool) : List D → List D → Option Bool
  | [], [] => some true
  | x :: xs, y :: ys => match eqi f x y with
    | some a => match eqs f xs ys with
      | some b => some (a && b)
      | none => none
    | none => none
  | [], _ :: _ => some false
  | _ :: _, [] => some false
def D.eqv : Nat → D → D → Option Bool
  | 0, a, b => eqS a b
  | n + 1, .nd k _ xs, .nd l _ ys => if k.sq = 0 ∨ l.sq = 0 then none else if k.sq = l.sq then eqs (D.eqv n) xs ys else some false
  | _ + 1, a, b => eqS a b
/-! ### primitive operations -/
inductive Ty | bool | int | str | list | tuple | dict
  deriving DecidableEq
inductive P
  | add | sub | mul | fdiv | mod | pow | neg
  | eq | ne | lt | le | gt | ge | isn | notn | inn | notin
  | sl (lo hi : Bool)
  | len | list_ | tuple_ | isi (t : Ty) (cs : List Nat) | isi2 (t u : Ty) (cs : List Nat)
  | int_ | str_ | min2 | max2 | join | split | sorted | all_ | dict_ | rev_ | ssort | usort
  deriving DecidableEq
def inStr (c z : Str) : Option Bool := match c.cps.toList with
  | [k] => some (decide (k ∈ z.cps.toList))
  | _ => none
def inSeq (n : Nat) (x : D) : List D → Option Bool
  | [] => some false
  | y :: ys => match y.eqv n x, inSeq n x ys with
    | some a, some b => some (a || b)
    | _, _ => none
def D.isTy : Ty → D → Option Bool
  | .bool, .bl _ => some true | .int, .bl _ => some true | .int, .int _ => some true | .str, .str _ => some true
  | .list, .nd .lst _ _ => some true | .tuple, .nd .tup _ _ => some true | .tuple, .nd .kt _ _ => some true
  | _, .nd (.ins _ _) _ _ => none | _, .nd .scr _ _ => none | _, .nd (.dK _) _ _ => none | _, .nd (.dT _) _ _ => none
  | _, _ => some false
def cmpI (f : Int → Int → Bool) : D → D → Option D
  | .int i, .int j => some (.bl (f i j))
  | _, _ => none
def strsOf : List D → Option (List Str)
  | [] => some []
  | .str x :: r => (strsOf r).map (x :: ·)
  | _ => none
def intsOf : List D → Option (List Int)
  | [] => some []
  | .int x :: r => (intsOf r).map (x :: ·)
  | _ => none
def insS (x : Str) : List Str → List Str
  | [] => [x]
  | y :: r => if PySem.Spec.ltCps y.cps.toList x.cps.toList = true then y :: insS x r else x :: y :: r
def sortS : List Str → List Str
  | [] => []
  | x :: r => insS x (sortS r)
def insI (x : Int) : List Int → List Int
  | [] => [x]
  | y :: r => if y < x then y :: insI x r else x :: y :: r
def sortI : List Int → List Int
  | [] => []
  | x :: r => insI x (sortI r)
/-- sorted by keys -/
def insK {α : Type} (x : List Int × α) : List (List Int × α) → List (List Int × α)
  | [] => [x]
  | y :: r => if y.1 < x.1 then y :: insK x r else x :: y :: r
def sortK {α : Type} : List (List Int × α) → List (List Int × α)
  | [] => []
  | x :: r => insK x (sortK r)
/-- the whole numbers with which a tuple begins -/
def intPre : List D → List Int
  | .int i :: r => i :: intPre r
  | _ => []
def keyD : D → List Int
  | .nd .tup false xs => intPre xs
  | _ => []
/-- what a set has behind the texts xs, put in one by one -/
def gotS : List Str → List Str → List Str
  | [], l => l
  | x :: xs, l => gotS xs (if x ∈ l then l else x :: l)
def bolsOf : List D → Option (List Bool)
  | [] => some []
  | .bl x :: r => (bolsOf r).map (x :: ·)
  | _ => none
def klen : List D → Nat
  | [] => 0
  | x :: _ => (keyD x).length
def keysOk (xs : List D) : Bool := fzs xs && decide (xs.length < 64) && decide (1 ≤ klen xs) && xs.all (fun x => decide ((keyD x).length = klen xs)) && decide (xs.map keyD).Nodup
def isiB (t : Ty) (cs : List Nat) : D → Option Bool
  | .nd (.ins c _) _ _ => if cs.contains c then some false else none
  | x => x.isTy t
def P.ev : P → List D → Option D
  | .add, [a, b] => match a, b with
    | .int i, .int j => some (.int (i + j))
    | .str x, .str y => if x.length + y.length ≤ sLine then some (.str (x ++ y)) else none
    | .nd .lst _ xs, .nd .lst _ ys => if fzs xs && fzs ys && decide (xs.length + ys.length ≤ sLine) then some (.ol (xs ++ ys)) else none
    | a, b => match asTup a, asTup b with
      | some xs, some ys => if xs.isEmpty then (if b.fz then some b else none) else if ys.isEmpty then (if a.fz then some a else none) else
          if fzs xs && fzs ys && decide (xs.length + ys.length ≤ sLine) then some (.tup (xs ++ ys)) else none
      | _, _ => none
  | .sub, [a, b] => match a, b with
    | .int i, .int j => some (.int (i - j))
    | _, _ => none
  | .mul, [a, b] => match a, b with
    | .int i, .int j => if (-(2 ^ 64) < i ∧ i < 2 ^ 64) ∨ (-(2 ^ 64) < j ∧ j < 2 ^ 64) then some (.int (i * j)) else none
    | .nd .lst _ xs, .int j => if fzs xs = true ∧ -(2 ^ 63) ≤ j ∧ j < 2 ^ 63 ∧ xs.length * j.toNat ≤ sLine then some (.ol (List.replicate j.toNat xs).flatten) else none
    | _, _ => none
  | .fdiv, [a, b] => match a, b with
    | .int i, .int j => if 0 < j ∧ j < 1073741824 then some (.int (i / j)) else none
    | _, _ => none
  | .mod, [a, b] => match a, b with
    | .int i, .int j => if 0 < j then some (.int (i % j)) else none
    | _, _ => none
  | .pow, [a, b] => match a, b with
    | .int i, .int j => if 0 ≤ j ∧ j ≤ 1000000 ∧ i.natAbs < 2 ^ 64 then some (.int (i ^ j.toNat)) else none
    | _, _ => none
  | .neg, [a] => match a with
    | .int i => some (.int (-i))
    | _ => none
  | .eq, [a, b] => (a.eqv 60 b).map .bl
  | .ne, [a, b] => (a.eqv 60 b).map fun k => .bl (!k)
  | .lt, [a, b] => match a, b with
    | .int i, .int j => some (.bl (decide (i < j)))
    | .str x, .str y => some (.bl (decide (x.cps.toList < y.cps.toList)))
    | _, _ => none
  | .le, [a, b] => match a, b with
    | .int i, .int j => some (.bl (decide (i ≤ j)))
    | .str x, .str y => some (.bl (!decide (y.cps.toList < x.cps.toList)))
    | _, _ => none
  | .gt, [a, b] => match a, b with
    | .int i, .int j => some (.bl (decide (j < i)))
    | _, _ => none
  | .ge, [a, b] => match a, b with
    | .int i, .int j => some (.bl (decide (j ≤ i)))
    | _, _ => none
  | .isn, [a] => some (.bl (match a with | .non => true | _ => false))
  | .notn, [a] => some (.bl (match a with | .non => false | _ => true))
  | .inn, [x, y] => match y with
    | .str z => match x with
      | .str c => (inStr c z).map .bl
      | _ => none
    | .nd k _ ys => if k.sq = 0 then (dctIx k x).map fun o => .bl o.isSome else (inSeq 60 x ys).map .bl
    | _ => none
  | .notin, [x, y] => match y with
    | .str z => match x with
      | .str c => (inStr c z).map fun k => .bl (!k)
      | _ => none
    | .nd k _ ys => if k.sq = 0 then (dctIx k x).map fun o => .bl (!o.isSome) else (inSeq 60 x ys).map fun k => .bl (!k)
    | _ => none
  | .sl l h, x :: r =>
    match optI (if l then r[0]? else none), optI (if h then r[if l then 1 else 0]? else none) with
    | some lo, some hi => if r.length = (if l then 1 else 0) + (if h then 1 else 0) then match x with
      | .str z => if z.length ≤ sLine then some (.str ⟨(cutP z.cps.toList lo hi).toArray⟩) else none
      | .nd .lst _ xs => if fzs xs then some (.ol (cutP xs lo hi)) else none
      | .nd .scr _ xs => if fzs xs then some (.ol (cutP xs lo hi)) else none
      | .nd k _ xs => if k.sq = 1 ∧ fzs xs = true then
          (if sIxP xs.length 0 lo = 0 ∧ sIxP xs.length xs.length hi = xs.length then (if x.fz then some x else none) else some (.tup (cutP xs lo hi))) else none
      | _ => none
      else none
    | _, _ => none
  | .len, [x] => match x with
    | .str z => if z.length ≤ sLine then some (.int z.length) else none
    | x => (asSeq x).map fun xs => .int xs.length
  | .list_, [x] => match asSeq x with
    | some xs => if fzs xs then some (.ol xs) else none
    | none => none
  | .tuple_, [x] => match x with
    | .nd .lst _ xs => if fzs xs then some (.tup xs) else none
    | x => match asTup x with
      | some _ => if x.fz then some x else none
      | none => none
  | .isi2 t u cs, [x] => match isiB t cs x, isiB u cs x with
    | some a, some b => some (.bl (a || b))
    | _, _ => none
  | .isi t cs, [x] => match x with
    | .nd (.ins c _) _ _ => if cs.contains c then some (.bl false) else none
    | x => (x.isTy t).map .bl
  | .int_, [x] => match x with
    | .bl k => some (.int (if k then 1 else 0))
    | .int i => some (.int i)
    | .str z => if z.length ≤ 640 then (PySem.intText? z).map .int else none
    | _ => none
  | .str_, [a] => match a with
    | .int i => if i.natAbs.log2 < 1920 then some (.str (Str.ofString (toString i))) else none
    | .str z => some (.str z)
    | _ => none
  | .min2, [a, b] => match a, b with
    | .int i, .int j => some (.int (if j < i then j else i))
    | _, _ => none
  | .max2, [a, b] => match a, b with
    | .int i, .int j => some (.int (if j > i then j else i))
    | _, _ => none
  | .join, [a, x] => match a with
    | .str s => match asSeq x with
      | some xs => match strsOf xs with
        | some ys => if (ys.map (·.length)).sum + ys.length * s.length ≤ sLine then some (.str (Str.join s ys)) else none
        | none => none
      | none => none
    | _ => none
  | .sorted, [a] => match a with
    | .nd .lst _ xs => match strsOf xs with
      | some ys => if ys.length < 64 then some (.ol ((sortS ys).map .str)) else none
      | none => match intsOf xs with
        | some ns => if ns.length < 64 then some (.ol ((sortI ns).map .int)) else none
        | none => if keysOk xs then some (.ol ((sortK ((xs.map keyD).zip xs)).map Prod.snd)) else none
    | _ => none
  | .all_, [a] => match a with
    | .nd .lst _ xs => match bolsOf xs with
      | some bs => some (.bl (bs.all id))
      | none => none
    | _ => none
  | .dict_, [a] => match a with
    | .nd .lst _ xs => match kvsOf xs with
      | some ps => if fzs xs && decide ((ps.map Prod.fst).Nodup) then some (.nd (.dK (ps.map Prod.fst)) true (ps.map Prod.snd)) else none
      | none => none
    | _ => none
  | .rev_, [a] => match a with
    | .nd .lst _ xs => if fzs xs then some (.ol xs.reverse) else none
    | _ => none
  | .ssort, [a] => match asSeq a with
    | some xs => match strsOf xs with
      | some ys => if ys.length < 64 then some (.ol ((sortS (gotS ys [])).map .str)) else none
      | none => none
    | none => none
  | .usort, [a, b] => match asSeq a, asSeq b with
    | some xs, some zs => match strsOf xs, strsOf zs with
      | some ys, some [k] => if (gotS ys []).length ≤ 3 ∧ ys.length < 64 then some (.ol ((sortS (if k ∈ gotS ys [] then gotS ys [] else k :: gotS ys [])).map .str)) else none
      | _, _ => none
    | _, _ => none
  | .split, [a, b] => match a, b with
    | .str x, .str y => if (y.length == 0) = false ∧ x.length + 2 ≤ sLine then some (.ol ((PySem.Txt.split x y).map .str)) else none
    | _, _ => none
  | _, _ => none
/-! ### the language -/
inductive M | append | clear | reverse | pop0 | pop1 | insert | extend | remove
  deriving DecidableEq
inductive Tg | nm (i : Nat) | tp (is : List Nat)
  deriving DecidableEq
inductive Cn | non | bl (b : Bool) | int (i : Int) | str (x : Str)
  deriving DecidableEq
def Cn.d : Cn → D
  | .non => .non | .bl b => .bl b | .int i => .int i | .str x => .str x
mutual
inductive Ex
  | con (c : Cn) | glo (x : Str) | var (i : Nat) | vz (i : Nat) | pk (i : Nat) | mv (i : Nat)
  | kix (x : Str) (b : Ex) | dlit (kvs : List (Key × Cn))
  | cs (i : Nat) (e : Ex)
  | prim (p : P) (as : Exs) | ix (a b : Ex) | fld (a : Ex) (n : Str)
  | tup (as : Exs) | lst (as : Exs)
  | nott (a : Ex) | ands (a b : Ex) | ors (a b : Ex) | ite (c a b : Ex)
  | chain (p q : P) (a b c : Ex)
  | call (f : Nat) (as : Exs) (df : List Cn) | meth (m : Str) (a : Ex) (as : Exs) | new (c : Nat) (as : Exs)
  | mut (a : Ex) (m : M) (as : Exs)
  | lc (tg : Tg) (it : It) (cd : Ex) (el : Ex)
inductive Exs | nil | cons (a : Ex) (as : Exs)
inductive It | seq (a : Ex) | rng1 (a : Ex) | rng2 (a b : Ex) | enum (a : Ex) | zip (a b : Ex)
end
mutual
inductive Sm
  | asg (tg : Tg) (e : Ex) | sub (a b : Ex) (e : Ex) | sfld (a : Ex) (n : Str) (e : Ex)
  | expr (e : Ex) | iff (c : Ex) (a b : Sms) | for_ (tg : Tg) (it : It) (b : Sms) | whil (c : Ex) (b : Sms)
  | ret (e : Ex) | retn | brk | pass | nev
inductive Sms | nil | cons (s : Sm) (r : Sms)
end
/-! ### what it computes -/
abbrev Env := List (Option D)
def gt (r : Env) (i : Nat) : Option D := match r[i]? with
  | some (some d) => some d
  | _ => none
inductive R | sl (i : Nat) | tm (d : D) | sn (r : Nat) (p : List Nat) (d : D)
def R.get (e : Env) : R → Option D
  | .sl i => gt e i
  | .tm d => some d
  | .sn _ _ d => some d
def gets (e : Env) : List R → Option (List D)
  | [] => some []
  | r :: rs => match r.get e, gets e rs with
    | some d, some ds => some (d :: ds)
    | _, _ => none
/-- results that may be handed on: slots (lent), each once, and things of their own -/
def lentOk (e : Env) : List R → List Nat → Bool
  | [], _ => true
  | .sl i :: r, l => match gt e i with
    | some d => if d.fz then lentOk e r l else !l.contains i && lentOk e r (i :: l)
    | none => false
  | .tm _ :: r, l => lentOk e r l
  | .sn _ _ _ :: _, _ => false
/-- the lent things come back -/
def back (e : Env) : List R → List D → Env
  | .sl i :: r, d :: ds => back (e.set i (some d)) r ds
  | _ :: r, _ :: ds => back e r ds
  | _, _ => e
def tm1 : Option (R × Env) → Option (D × Env)
  | some (.tm d, e) => some (d, e)
  | _ => none
def tms : List R → Option (List D)
  | [] => some []
  | .tm d :: r => (tms r).map (d :: ·)
  | _ => none
def items : D → Option (List D)
  | .str z => some (z.cps.toList.map fun c => .str ⟨#[c]⟩)
  | d => match asSeq d with
    | some xs => if fzs xs then some xs else none
    | none => none
/-- what is walked: where it is a thing of its own, its parts may be its own, too (they are locked) -/
def itemsT (r : R) (d : D) : Option (List D) := match items d with
  | some xs => some xs
  | none => match r with
    | .tm _ => items d.fr
    | _ => none
/-- with their places -/
def nmbr : Nat → List D → List D
  | _, [] => []
  | i, x :: xs => .tup [.int (i : Nat), x] :: nmbr (i + 1) xs
def enumT (r : R) (d : D) : Option (List D) := match d with
  | .str _ => none
  | d => (itemsT r d).map (nmbr 0)
def bindTg (e : Env) (d : D) : Tg → Option Env
  | .nm i => if i < e.length then some (e.set i (some d)) else none
  | .tp is => match asSeq d with
    | some xs => if xs.length = is.length ∧ (is.all fun i => decide (i < e.length)) = true then some ((is.zip xs).foldl (fun e p => e.set p.1 (some p.2)) e) else none
    | none => none
/-- an item by its place: of a slot or of a thing within it, else of a thing of its own -/
def ixD (r : R) (k : D) : D → Option R
  | .nd kd _ xs => match dctIx kd k with
    | some (some j) => match xs[j]? with
      | some d => if d.fz then some (.tm d) else match r with
        | .sl q => some (.sn q [j] d)
        | .sn q p _ => some (.sn q (p ++ [j]) d)
        | .tm _ => some (.tm d)
      | none => none
    | _ => none
  | _ => none
def ixR (e : Env) (r : R) (k : D) : Option R :=
  match r.get e, k with
  | some (.str z), .int i => if z.length ≤ sLine then match ixP z.cps.toList.length i with
    | some j => match z.cps.toList[j]? with
      | some c => some (.tm (.str ⟨#[c]⟩))
      | none => none
    | none => none
    else none
  | some d0, .int i => match asSeq d0 with
    | some xs => match ixP xs.length i with
      | some j => match xs[j]? with
        | some d => if d.fz then some (.tm d) else match r with
          | .sl q => some (.sn q [j] d)
          | .sn q p _ => some (.sn q (p ++ [j]) d)
          | .tm _ => some (.tm d)
        | none => none
      | none => none
    | none => ixD r (.int i) d0
  | some d0, k => ixD r k d0
  | none, _ => none
/-- a field by its name -/
def fldR (fl : Nat → Str → Bool) (e : Env) (r : R) (n : Str) : Option R :=
  match r.get e with
  | some (.nd (.ins c ns) _ xs) => if fl c n then (match ns.findIdx? (· = n) with
    | some j => match xs[j]? with
      | some d => if d.fz then some (.tm d) else match r with
        | .sl q => some (.sn q [j] d)
        | .sn q p _ => some (.sn q (p ++ [j]) d)
        | .tm _ => some (.tm d)
      | none => none
    | none => none)
    else none
  | _ => none
/-- a field is written -/
def fldPut (n : Str) (d : D) (ns : List Str) (xs : List D) : List Str × List D := match ns.findIdx? (· = n) with
  | some j => (ns, xs.set j d)
  | none => (ns ++ [n], xs ++ [d])
def wrF (fl : Nat → Str → Bool) (e : Env) (r : R) (n : Str) (d : D) : Option Env :=
  match r with
  | .sl i => match gt e i with
    | some (.nd (.ins c ns) true xs) => if fl c n && decide (ns.length < 1000) then some (e.set i (some (.nd (.ins c (fldPut n d ns xs).1) true (fldPut n d ns xs).2))) else none
    | _ => none
  | _ => none
def setP (d' : D) : List Nat → D → D
  | [], _ => d'
  | j :: p, .nd k o xs => .nd k o (match xs[j]? with
    | some x => xs.set j (setP d' p x)
    | none => xs)
  | _, d => d
/-- a list changed by a method: the list, what comes back -/
def M.ev : M → List D → List D → Option (List D × D)
  | .append, xs, [d] => if xs.length < sLine then some (xs ++ [d], .non) else none
  | .clear, _, [] => some ([], .non)
  | .reverse, xs, [] => some (xs.reverse, .non)
  | .insert, xs, [i, d] => match i with
    | .int i => if xs.length < sLine ∧ 0 ≤ i ∧ i < 2 ^ 63 then some (xs.take i.toNat ++ [d] ++ xs.drop i.toNat, .non) else none
    | _ => none
  | .extend, xs, [d] => match d with
    | .nd .lst _ ys => if xs.length + ys.length ≤ sLine then some (xs ++ ys, .non) else none
    | _ => none
  | _, _, _ => none
def wrR (e : Env) (r : R) (f : List D → Option (List D × D)) : Option (D × Env) :=
  match r with
  | .sl i => match gt e i with
    | some (.nd .lst true xs) => match f xs with
      | some (ys, d) => some (d, e.set i (some (.ol ys)))
      | none => none
    | _ => none
  | .sn i p (.nd .lst true xs) => match gt e i with
    | some d0 => match f xs with
      | some (ys, d) => some (d, e.set i (some (setP (.ol ys) p d0)))
      | none => none
    | none => none
  | .tm (.nd .lst true xs) => match f xs with
    | some (_, d) => some (d, e)
    | none => none
  | _ => none
def mutR (e : Env) (r : R) (m : M) (ds : List D) : Option (D × Env) := wrR e r fun xs => m.ev xs ds
/-- an item is written -/
def putR (e : Env) (r : R) (k : Int) (d : D) : Option Env := match wrR e r fun xs => match ixP xs.length k with
    | some j => some (xs.set j d, .non)
    | none => none with
  | some (_, e) => some e
  | none => none
def bool1 : Option (R × Env) → Option (Bool × Env)
  | some (.tm (.bl b), e) => some (b, e)
  | some (.sl i, e) => match gt e i with
    | some (.bl b) => some (b, e)
    | _ => none
  | _ => none
inductive Out | nx (e : Env) | ret (d : D) (e : Env) | brk (e : Env)
abbrev Cl := Nat → List D → Option (D × List D)
def forL (f : D → Env → Option Out) : List D → Env → Option Out
  | [], e => some (.nx e)
  | x :: xs, e => match f x e with
    | some (.nx e') => forL f xs e'
    | some (.brk e') => some (.nx e')
    | o => o
def lcL (f : D → Env → Option (Option D × Env)) : List D → List D → Env → Option (List D × Env)
  | [], acc, e => some (acc, e)
  | x :: xs, acc, e => match f x e with
    | some (some d, e') => if acc.length < sLine then lcL f xs (acc ++ [d]) e' else none
    | some (none, e') => lcL f xs acc e'
    | none => none
def whileL (c : Env → Option (Bool × Env)) (f : Env → Option Out) : Nat → Env → Option Out
  | 0, _ => none
  | n + 1, e => match c e with
    | some (false, e1) => some (.nx e1)
    | some (true, e1) => match f e1 with
      | some (.nx e2) => whileL c f n e2
      | some (.brk e2) => some (.nx e2)
      | o => o
    | none => none
def rngL (i j : Int) : Option (List D) := if -(2 ^ 62) ≤ i ∧ i < 2 ^ 62 ∧ -(2 ^ 62) ≤ j ∧ j < 2 ^ 62 then some ((List.range (j - i).toNat).map fun (k : Nat) => D.int (i + (k : Int))) else none
def wipeE (e : Env) : Tg → Env
  | .nm i => e.set i none
  | .tp is => is.foldl (fun e i => e.set i none) e
structure Sig where
  consts : List (Str × D)
  meths : Nat → Str → Option Nat
  init : Nat → Option Nat
  flds : Nat → Str → Bool
  turns : Nat
  dcts : List (Str × List (Str × D)) := []
section
variable (G : Sig) (c : Cl)
mutual
def Ex.ev : Ex → Env → Option (R × Env)
  | .con k, e => some (.tm k.d, e)
  | .glo x, e => match G.consts.lookup x with
    | some d => some (.tm d, e)
    | none => none
  | .kix x b, e => match b.ev e with
    | some (r, e1) => match r.get e1 with
      | some (.str z) => match G.dcts.lookup x with
        | some kv => match kv.lookup z with
          | some d => some (.tm d, e1)
          | none => none
        | none => none
      | _ => none
    | none => none
  | .dlit kvs, e => some (.tm (.nd (.dK (kvs.map Prod.fst)) true (kvs.map fun p => p.2.d)), e)
  | .var i, e => match gt e i with
    | some d => some (.tm d.fr, e.set i (some d.fr))
    | none => none
  | .vz i, e => match gt e i with
    | some d => if d.fz then some (.tm d, e) else none
    | none => none
  | .pk i, e => match gt e i with
    | some _ => some (.sl i, e)
    | none => none
  | .mv i, e => match gt e i with
    | some d => some (.tm d, e.set i none)
    | none => none
  | .cs i a, e => match a.ev e with
    | some (.tm d, e1) => some (.tm d, e1)
    | some (.sn _ _ _, _) => match gt e i with
      | some d => match a.ev (e.set i (some d.fr)) with
        | some (.tm d, e1) => some (.tm d, e1)
        | _ => none
      | none => none
    | _ => none
  | .prim p as, e => match as.ev e with
    | some (rs, e1) => match gets e1 rs with
      | some ds => match p.ev ds with
        | some d => some (.tm d, e1)
        | none => none
      | none => none
    | none => none
  | .ix a b, e => match a.ev e with
    | some (r, e1) => match b.ev e1 with
      | some (k, e2) => match k.get e2 with
        | some kd => match ixR e2 r kd with
          | some r' => some (r', e2)
          | none => none
        | none => none
      | none => none
    | none => none
  | .fld a n, e => match a.ev e with
    | some (r, e1) => match fldR G.flds e1 r n with
      | some r' => some (r', e1)
      | none => none
    | none => none
  | .tup as, e => match as.ev e with
    | some (rs, e1) => match tms rs with
      | some ds => if ds.length ≤ sLine then some (.tm (.tup ds), e1) else none
      | none => none
    | none => none
  | .lst as, e => match as.ev e with
    | some (rs, e1) => match tms rs with
      | some ds => if ds.length ≤ sLine then some (.tm (.ol ds), e1) else none
      | none => none
    | none => none
  | .nott a, e => match bool1 (a.ev e) with
    | some (b, e1) => some (.tm (.bl (!b)), e1)
    | none => none
  | .ands a b, e => match bool1 (a.ev e) with
    | some (true, e1) => match bool1 (b.ev e1) with
      | some (k, e2) => some (.tm (.bl k), e2)
      | none => none
    | some (false, e1) => some (.tm (.bl false), e1)
    | none => none
  | .ors a b, e => match bool1 (a.ev e) with
    | some (false, e1) => match bool1 (b.ev e1) with
      | some (k, e2) => some (.tm (.bl k), e2)
      | none => none
    | some (true, e1) => some (.tm (.bl true), e1)
    | none => none
  | .ite t a b, e => match bool1 (t.ev e) with
    | some (true, e1) => (tm1 (a.ev e1)).map fun p => (.tm p.1, p.2)
    | some (false, e1) => (tm1 (b.ev e1)).map fun p => (.tm p.1, p.2)
    | none => none
  | .chain p q a b z, e => match a.ev e with
    | some (ra, e1) => match b.ev e1 with
      | some (rb, e2) => match ra.get e2, rb.get e2 with
        | some da, some db => match p.ev [da, db] with
          | some (.bl true) => match z.ev e2 with
            | some (rz, e3) => match rb.get e3, rz.get e3 with
              | some db, some dz => match q.ev [db, dz] with
                | some (.bl k) => some (.tm (.bl k), e3)
                | _ => none
              | _, _ => none
            | none => none
          | some (.bl false) => some (.tm (.bl false), e2)
          | _ => none
        | _, _ => none
      | none => none
    | none => none
  | .call f as df, e => match as.ev e with
    | some (rs, e1) => match gets e1 rs with
      | some ds => if lentOk e1 rs [] then match c f (ds ++ df.map Cn.d) with
        | some (d, ds') => some (.tm d, back e1 rs ds')
        | none => none
        else none
      | none => none
    | none => none
  | .meth m a as, e => match a.ev e with
    | some (r, e1) => match r.get e1 with
      | some (.nd (.ins ci ns) _ _) => if ns.contains m then none else match G.meths ci m with
        | some f => match as.ev e1 with
          | some (rs, e2) => match gets e2 (r :: rs) with
            | some ds => if lentOk e2 (r :: rs) [] then match c f ds with
              | some (d, ds') => some (.tm d, back e2 (r :: rs) ds')
              | none => none
              else none
            | none => none
          | none => none
        | none => none
      | _ => none
    | none => none
  | .new ci as, e => if ci < 1000 then match as.ev e with
    | some (rs, e1) => match gets e1 rs with
      | some ds => match G.init ci with
        | some f => if lentOk e1 rs [] then match c f (.nd (.ins ci []) true [] :: ds) with
          | some (.non, self :: ds') => some (.tm self, back e1 rs ds')
          | _ => none
          else none
        | none => match ds with
          | [] => some (.tm (.nd (.ins ci []) true []), e1)
          | _ => none
      | none => none
    | none => none
    else none
  | .mut a m as, e => match a.ev e with
    | some (r, e1) => match r.get e1 with
      | some (.nd .lst true _) => match as.ev e1 with
        | some (rs, e2) => match tms rs with
          | some ds => match mutR e2 r m ds with
            | some (d, e3) => some (.tm d, e3)
            | none => none
          | none => none
        | none => none
      | _ => none
    | none => none
  | .lc tg it cd el, e => match it.ev e with
    | some (xs, e1) => match lcL (fun x e => match bindTg e x tg with
        | some e => match bool1 (cd.ev e) with
          | some (true, e) => match tm1 (el.ev e) with
            | some (d, e) => some (some d, wipeE e tg)
            | none => none
          | some (false, e) => some (none, wipeE e tg)
          | none => none
        | none => none) xs [] (wipeE e1 tg) with
      | some (ds, e2) => some (.tm (.ol ds), e2)
      | none => none
    | none => none
def Exs.ev : Exs → Env → Option (List R × Env)
  | .nil, e => some ([], e)
  | .cons a as, e => match a.ev e with
    | some (r, e1) => match as.ev e1 with
      | some (rs, e2) => some (r :: rs, e2)
      | none => none
    | none => none
def It.ev : It → Env → Option (List D × Env)
  | .seq a, e => match a.ev e with
    | some (r, e1) => match r.get e1 with
      | some d => (itemsT r d).map (·, e1)
      | none => none
    | none => none
  | .rng1 a, e => match a.ev e with
    | some (r, e1) => match r.get e1 with
      | some (.int j) => (rngL 0 j).map (·, e1)
      | _ => none
    | none => none
  | .rng2 a b, e => match a.ev e with
    | some (r, e1) => match b.ev e1 with
      | some (q, e2) => match r.get e2, q.get e2 with
        | some (.int i), some (.int j) => (rngL i j).map (·, e2)
        | _, _ => none
      | none => none
    | none => none
  | .enum a, e => match a.ev e with
    | some (r, e1) => match r.get e1 with
      | some d => (enumT r d).map (·, e1)
      | none => none
    | none => none
  | .zip _ _, _ => none
end
mutual
def Sm.ev : Sm → Env → Option Out
  | .asg tg a, e => match tm1 (a.ev G c e) with
    | some (d, e1) => match bindTg e1 d tg with
      | some e2 => some (.nx e2)
      | none => none
    | none => none
  | .sub a b v, e => match tm1 (v.ev G c e) with
    | some (d, e1) => match a.ev G c e1 with
      | some (r, e2) => match b.ev G c e2 with
        | some (k, e3) => match k.get e3 with
          | some (.int k) => match putR e3 r k d with
            | some e4 => some (.nx e4)
            | none => none
          | _ => none
        | none => none
      | none => none
    | none => none
  | .sfld a n v, e => match tm1 (v.ev G c e) with
    | some (d, e1) => match a.ev G c e1 with
      | some (r, e2) => match wrF G.flds e2 r n d with
        | some e3 => some (.nx e3)
        | none => none
      | none => none
    | none => none
  | .nev, _ => none
  | .expr a, e => match a.ev G c e with
    | some (_, e1) => some (.nx e1)
    | none => none
  | .iff t a b, e => match bool1 (t.ev G c e) with
    | some (true, e1) => a.ev e1
    | some (false, e1) => b.ev e1
    | none => none
  | .for_ tg it b, e => match it.ev G c e with
    | some (xs, e1) => forL (fun x e => match bindTg e x tg with
      | some e => b.ev e
      | none => none) xs e1
    | none => none
  | .whil t b, e => whileL (fun e => bool1 (t.ev G c e)) (fun e => b.ev e) G.turns e
  | .ret a, e => match tm1 (a.ev G c e) with
    | some (d, e1) => some (.ret d e1)
    | none => none
  | .retn, e => some (.ret .non e)
  | .brk, e => some (.brk e)
  | .pass, e => some (.nx e)
def Sms.ev : Sms → Env → Option Out
  | .nil, e => some (.nx e)
  | .cons s r, e => match s.ev e with
    | some (.nx e1) => r.ev e1
    | o => o
end
end
/-- no instance bears a tag -/
@[simp] def D.unt : D → Bool
  | .non => true | .bl _ => true | .int _ => true | .str _ => true
  | .nd k _ xs => (match k with | .ins c _ => decide (c < 1000) | _ => true) && unts xs
where
  @[simp] unts : List D → Bool
  | [] => true
  | x :: xs => x.unt && unts xs
/-- the instances get tags, from n on -/
def D.tg : Nat → D → Nat × D
  | n, .nd k _ xs => match k with
    | .ins c ns => ((tgs (n + 1) xs).1, .nd (.ins (c + 1000 * n) ns) false (tgs (n + 1) xs).2)
    | k => ((tgs n xs).1, .nd k false (tgs n xs).2)
  | n, d => (n, d)
where
  tgs : Nat → List D → Nat × List D
  | n, [] => (n, [])
  | n, x :: xs => ((tgs (D.tg n x).1 xs).1, (D.tg n x).2 :: (tgs (D.tg n x).1 xs).2)
def lockE (i : Nat) (e : Env) : Option Env :=
  if (e.all fun x => match x with | some d => d.unt | none => true) = true then match gt e i with
    | some d => if (D.tg 1 d).1 < 1000000 then some (e.set i (some (D.tg 1 d).2)) else none
    | none => none
  else none
structure Fn where
  np : Nat
  prot : List Nat
  ns : Nat
  body : Sms
def startE (f : Fn) (ds : List D) : Env := (ds.mapIdx fun i d => some (if f.prot.contains i then d else d.fr)) ++ List.replicate (f.ns - f.np) none
def endDs (f : Fn) (e : Env) : Nat → List D → Option (List D)
  | _, [] => some []
  | i, d :: ds => match (if f.prot.contains i then gt e i else some d.fr), endDs f e (i + 1) ds with
    | some d', some ds' => some (d' :: ds')
    | _, _ => none
def evF (G : Sig) (fns : List Fn) : Nat → Nat → List D → Option (D × List D)
  | 0, _, _ => none
  | k + 1, f, ds => match fns[f]? with
    | none => none
    | some fn => if ds.length = fn.np then
        match fn.body.ev G (evF G fns k) (startE fn ds) with
        | some (.nx e) => (endDs fn e 0 ds).map (.non, ·)
        | some (.ret d e) => (endDs fn e 0 ds).map (d, ·)
        | _ => none
      else none
/-- law's body, with the lock between -/
def evL (G : Sig) (fns : List Fn) (k i : Nat) (pre post : Sms) (e : Env) : Option D := match pre.ev G (evF G fns k) e with
  | some (.nx e1) => match lockE i e1 with
    | some e2 => match post.ev G (evF G fns k) e2 with
      | some (.ret d _) => some d
      | _ => none
    | none => none
  | _ => none
end TK
/-! TK: sorted() of tuples whose first whole numbers differ. Own work. -/
namespace TK
section
theorem lis_irr (a : List Int) : ¬ a < a := List.lt_irrefl a
theorem lis_trans {a b c : List Int} (h : a < b) (k : b < c) : a < c := List.lt_trans h k
theorem lis_tri (a b : List Int) : a < b ∨ a = b ∨ b < a := by
  rcases Classical.em (a < b) with h | h
  · exact .inl h
  · rcases Classical.em (b < a) with k | k
    · exact .inr (.inr k)
    · exact .inr (.inl (List.le_antisymm (List.not_lt.mp k) (List.not_lt.mp h)))
/-- how many of ks stand before k -/
def rankOf (ks : List (List Int)) (k : List Int) : Nat := ks.countP fun j => decide (j < k)
theorem rank_le {a b : List Int} (h : a < b ∨ a = b) : ∀ ks : List (List Int), rankOf ks a ≤ rankOf ks b := fun ks => List.countP_mono_left fun j _ hj => by
  have hj := of_decide_eq_true hj
  rcases h with h | h
  · exact decide_eq_true (lis_trans hj h)
  · exact decide_eq_true (h ▸ hj)
theorem rank_lt {a b : List Int} (h : a < b) : ∀ {ks : List (List Int)}, a ∈ ks → rankOf ks a < rankOf ks b
  | [], hm => by cases hm
  | k :: ks, hm => by
    have h1 := rank_le (.inl h) ks
    unfold rankOf at *
    rw [List.countP_cons, List.countP_cons]
    rcases List.mem_cons.mp hm with rfl | hm
    · rw [if_neg (by simpa using lis_irr a), if_pos (decide_eq_true h)]; omega
    · have h2 := rank_lt h hm
      unfold rankOf at h2
      by_cases q : k < a
      · rw [if_pos (decide_eq_true q), if_pos (decide_eq_true (lis_trans q h))]; omega
      · rw [if_neg (by simpa using q)]; split <;> omega
theorem rank_iff {a b : List Int} {ks : List (List Int)} (ha : a ∈ ks) (hb : b ∈ ks) : rankOf ks a < rankOf ks b ↔ a < b := by
  refine ⟨fun h => ?_, fun h => rank_lt h ha⟩
  rcases lis_tri a b with q | q | q
  · exact q
  · rw [q] at h; omega
  · have := rank_lt q hb; omega
theorem insK_perm {α : Type} (x : List Int × α) : ∀ l : List (List Int × α), (insK x l).Perm (x :: l)
  | [] => .refl _
  | y :: r => by
    unfold insK
    split
    · exact ((insK_perm x r).cons y).trans (.swap x y r)
    · exact .refl _
theorem sortK_perm {α : Type} : ∀ l : List (List Int × α), (sortK l).Perm l
  | [] => .refl _
  | x :: r => (insK_perm x (sortK r)).trans ((sortK_perm r).cons x)
def leK (a b : List Int) : Prop := ¬ b < a
theorem leK_trans {a b c : List Int} (h : leK a b) (k : leK b c) : leK a c := fun z => by
  rcases lis_tri a b with q | q | q
  · exact k (lis_trans z q)
  · exact k (q ▸ z)
  · exact h q
theorem insK_pair {α : Type} (x : List Int × α) : ∀ {l : List (List Int × α)}, l.Pairwise (fun a b => leK a.1 b.1) → (insK x l).Pairwise fun a b => leK a.1 b.1
  | [], _ => by simp [insK]
  | y :: r, h => by
    have hc := List.pairwise_cons.mp h
    unfold insK
    split
    · rename_i q
      refine List.pairwise_cons.mpr ⟨fun z hz => ?_, insK_pair x hc.2⟩
      rcases List.mem_cons.mp ((insK_perm x r).mem_iff.mp hz) with e | e
      · rw [e]; exact fun w => lis_irr _ (lis_trans q w)
      · exact hc.1 z e
    · rename_i q
      refine List.pairwise_cons.mpr ⟨fun z hz => ?_, h⟩
      rcases List.mem_cons.mp hz with e | e
      · rw [e]; exact q
      · exact leK_trans q (hc.1 z e)
theorem sortK_pair {α : Type} : ∀ l : List (List Int × α), (sortK l).Pairwise fun a b => leK a.1 b.1
  | [] => .nil
  | x :: r => insK_pair x (sortK_pair r)
theorem nodup_inj {α : Type} : ∀ {l : List (List Int × α)}, (l.map Prod.fst).Nodup → ∀ a ∈ l, ∀ b ∈ l, a.1 = b.1 → a = b
  | [], _, _, h, _, _, _ => by cases h
  | x :: r, h, a, ha, b, hb, e => by
    have hc := List.nodup_cons.mp h
    rcases List.mem_cons.mp ha with e1 | ha1
    · rcases List.mem_cons.mp hb with e2 | hb1
      · rw [e1, e2]
      · exact absurd (List.mem_map.mpr ⟨b, hb1, by rw [← e, e1]⟩) hc.1
    · rcases List.mem_cons.mp hb with e2 | hb1
      · exact absurd (List.mem_map.mpr ⟨a, ha1, by rw [e, e2]⟩) hc.1
      · exact nodup_inj hc.2 a ha1 b hb1 e
theorem sortK_eq {α : Type} {l ys : List (List Int × α)} (hn : (l.map Prod.fst).Nodup) (h1 : ys.Perm l) (h2 : ys.Pairwise fun a b => leK a.1 b.1) : ys = sortK l :=
  List.Perm.eq_of_pairwise (fun a b ha hb k1 k2 => nodup_inj hn a (h1.mem_iff.mp ha) b ((sortK_perm l).mem_iff.mp hb) (by
    rcases lis_tri a.1 b.1 with q | q | q
    · exact absurd q k2
    · exact q
    · exact absurd q k1)) h2 (sortK_pair l) (h1.trans (sortK_perm l).symm)
theorem insK_map {α β : Type} (f : α → β) (x : List Int × α) : ∀ l : List (List Int × α), (insK x l).map (fun p => (p.1, f p.2)) = insK (x.1, f x.2) (l.map fun p => (p.1, f p.2))
  | [] => rfl
  | y :: r => by
    simp only [insK, List.map_cons]
    split
    · rw [List.map_cons, insK_map f x r]
    · rfl
theorem sortK_map {α β : Type} (f : α → β) : ∀ l : List (List Int × α), (sortK l).map (fun p => (p.1, f p.2)) = sortK (l.map fun p => (p.1, f p.2))
  | [] => rfl
  | x :: r => by
    show (insK x (sortK r)).map _ = insK _ (sortK _)
    rw [insK_map, sortK_map f r]
end
namespace Srt
open PySem PyProof.Rows TS
def IntPre : List Value → List Int → Prop
  | _, [] => True
  | v :: vs, n :: ns => (∃ t, v = .int n t) ∧ IntPre vs ns
  | [], _ :: _ => False
def HasKey (h : Heap) (v : Value) (ns : List Int) : Prop := ∃ a o xs n, v = .ref a ∧ h.get? a = some o ∧ o.cls = .type "tuple" ∧ o.data = .seq xs n ∧ IntPre xs.toList ns
theorem IntPre.uniq : ∀ {vs : List Value} {ns ms : List Int}, IntPre vs ns → IntPre vs ms → ns.length = ms.length → ns = ms
  | _, [], [], _, _, _ => rfl
  | _, [], _ :: _, _, _, h => by cases h
  | _, _ :: _, [], _, _, h => by cases h
  | v :: vs, n :: ns, m :: ms, h, k, e => by
    obtain ⟨⟨t, rfl⟩, h⟩ := h
    obtain ⟨⟨u, e2⟩, k⟩ := k
    cases e2
    rw [h.uniq k (by simpa using e)]
  | [], _ :: _, _ :: _, h, _, _ => h.elim
theorem HasKey.uniq {h : Heap} {v : Value} {ns ms : List Int} (k1 : HasKey h v ns) (k2 : HasKey h v ms) (e : ns.length = ms.length) : ns = ms := by
  obtain ⟨a, o, xs, n, rfl, ho, _, hd, hp⟩ := k1
  obtain ⟨b, o', ys, n', e1, ho', _, hd', hp'⟩ := k2
  cases e1
  rw [ho] at ho'
  cases ho'
  rw [hd] at hd'
  cases hd'
  exact hp.uniq hp' e
theorem HasKey.keeps {h h' : Heap} {v : Value} {ns : List Int} (x : HasKey h v ns) (k : ∀ b o, h.get? b = some o → o.cls = .type "tuple" → h'.get? b = some o) : HasKey h' v ns := by
  obtain ⟨a, o, xs, n, e, ho, hc, r⟩ := x
  exact ⟨a, o, xs, n, e, k a o ho hc, hc, r⟩
section
variable {prog : Program} {w : World} {A : Around} {E : Value → Shared → Prop} {s : Shared} {b : Bool} {Q : Bool → Shared → Prop}
theorem eq_self {E : Value → Shared → Prop} {Q : Bool → Shared → Prop} (p : Value) (h : Q true s) : wpAny (model prog w) A (eqBool p p) Q E s := by
  unfold eqBool
  refine wpAny_holding ?_
  rw [if_pos (beq_self_eq_true p)]
  exact wpAny_bind (wpAny_rule (wpAny_pure h))
theorem lex_self : ∀ (xs : List Value) (i : Nat), Q false s → PySem.W.KatLex prog w A b false Q (xs.zip xs) i s
  | [], _, h => h
  | x :: xs, i, h => by
    show PySem.W.KatLex prog w A b false Q ((x, x) :: xs.zip xs) i s
    exact PySem.W.kat_cons (eq_self x (PySem.W.kat_yes (lex_self xs (i + 1) h)))
theorem lex_pre {fin : Bool} : ∀ {xs ys : List Value} {ns ms : List Int} (i : Nat), IntPre xs ns → IntPre ys ms → ns.length = ms.length → ns ≠ ms → Q (decide (ns < ms)) s → PySem.W.KatLex prog w A b fin Q (xs.zip ys) i s
  | _, _, [], [], _, _, _, _, h, _ => absurd rfl h
  | _, _, [], _ :: _, _, _, _, h, _, _ => by cases h
  | _, _, _ :: _, [], _, _, _, h, _, _ => by cases h
  | [], _, _ :: _, _ :: _, _, h, _, _, _, _ => h.elim
  | _ :: _, [], _ :: _, _ :: _, _, _, h, _, _, _ => h.elim
  | x :: xs, y :: ys, n :: ns, m :: ms, i, h1, h2, hl, hne, hq => by
    obtain ⟨⟨t, rfl⟩, h1⟩ := h1
    obtain ⟨⟨u, rfl⟩, h2⟩ := h2
    show PySem.W.KatLex prog w A b fin Q ((Value.int n t, Value.int m u) :: xs.zip ys) i s
    refine PySem.W.kat_cons (wpAny_eqBool_int ?_)
    by_cases e : n = m
    · subst e
      rw [beq_self_eq_true]
      refine PySem.W.kat_yes (lex_pre (i + 1) h1 h2 (by simpa using hl) (fun z => hne (by rw [z])) ?_)
      have z : decide (n :: ns < n :: ms) = decide (ns < ms) := decide_eq_decide.mpr (by rw [List.cons_lt_cons_iff]; simp)
      rw [← z]; exact hq
    · rw [beq_eq_false_iff_ne.mpr e]
      refine PySem.W.kat_no (oneLt_ints _ ?_)
      have z : decide (n :: ns < m :: ms) = decide (n < m) := decide_eq_decide.mpr (by rw [List.cons_lt_cons_iff]; simp [e])
      rw [← z]; exact hq
end
/-- the keys of the things to be sorted -/
def KeysOk (h : Heap) (d : Nat) (vs : List Value) : Prop := (∀ v ∈ vs, ∃ ns, HasKey h v ns ∧ ns.length = d) ∧ ∀ u ∈ vs, ∀ v ∈ vs, ∀ ns, ns.length = d → HasKey h u ns → HasKey h v ns → u = v
open Classical in
noncomputable def keyAt (h : Heap) (d : Nat) (v : Value) : List Int := if q : ∃ ns, HasKey h v ns ∧ ns.length = d then q.choose else []
theorem keyAt_eq {h : Heap} {d : Nat} {v : Value} {ns : List Int} (k : HasKey h v ns) (l : ns.length = d) : keyAt h d v = ns := by
  have q : ∃ ns, HasKey h v ns ∧ ns.length = d := ⟨ns, k, l⟩
  unfold keyAt
  rw [dif_pos q]
  exact q.choose_spec.1.uniq k (by rw [q.choose_spec.2, l])
theorem firsts {h : Heap} {d : Nat} (hd : 1 ≤ d) : ∀ vs : List Value, (∀ v ∈ vs, ∃ ns, HasKey h v ns ∧ ns.length = d) → ∃ fs, PySem.W.KatTups h vs fs ∧ fs.length = vs.length ∧ ∀ f ∈ fs, ∃ n t, f = Value.int n t
  | [], _ => ⟨[], PySem.W.KatTups.nil, rfl, by simp⟩
  | v :: vs, x => by
    obtain ⟨fs, k, hl, hi⟩ := firsts hd vs fun u hu => x u (List.mem_cons_of_mem _ hu)
    obtain ⟨ns, ⟨a, o, xs, n, rfl, ho, hc, hdt, hp⟩, hn⟩ := x v List.mem_cons_self
    cases ns with
    | nil => simp at hn; omega
    | cons m ms =>
      cases q : xs.toList with
      | nil => rw [q] at hp; exact hp.elim
      | cons y ys =>
        rw [q] at hp
        obtain ⟨⟨t, rfl⟩, _⟩ := hp
        have z : xs[0]? = some (Value.int m t) := by rw [← Array.getElem?_toList, q]; rfl
        refine ⟨_ :: fs, PySem.W.KatTups.cons ho hc hdt z k, by simp [hl], fun f hf => ?_⟩
        rcases List.mem_cons.mp hf with rfl | hf
        · exact ⟨m, t, rfl⟩
        · exact hi f hf
section
variable {prog : Program} {w : World} {A : Around} {E : Value → Shared → Prop} {s : Shared}
theorem kind_keys {d : Nat} {vs : List Value} (hd : 1 ≤ d) (h2 : 2 ≤ vs.length) (x : KeysOk s.heap d vs) (r : Value → Int) (hr : ∀ v ∈ vs, r v = (rankOf (vs.map (keyAt s.heap d)) (keyAt s.heap d v) : Nat)) (Q : SortKind → Shared → Prop) (h : ∀ κ, Cmp prog w A s κ (pairsOf vs) r → Q κ s) :
    wpAny (model prog w) A (keyKind' vs.toArray) Q E s := by
  obtain ⟨fs, k, hl, hi⟩ := firsts hd vs x.1
  refine PySem.W.kat_kind (T := Value.type "int") k (by omega) (fun f hf => ?_) rfl (h _ fun p q hp hq Q' E' hQ => ?_)
  · obtain ⟨n, t, rfl⟩ := hi f hf
    exact PySem.W.Looks.of_pure rfl
  · rw [pairsOf_toList] at hp hq
    have mp := (mem_zip_self hp).2
    have mq := (mem_zip_self hq).2
    obtain ⟨ns, kp, lp⟩ := x.1 _ mp
    obtain ⟨ms, kq, lq⟩ := x.1 _ mq
    have ep := keyAt_eq kp lp
    have eq := keyAt_eq kq lq
    have rk : decide (r p.1 < r q.1) = decide (ns < ms) := by
      refine decide_eq_decide.mpr ?_
      rw [hr _ mp, hr _ mq, Int.ofNat_lt, rank_iff (List.mem_map.mpr ⟨_, mp, rfl⟩) (List.mem_map.mpr ⟨_, mq, rfl⟩), ep, eq]
    rw [rk] at hQ
    by_cases e : ns = ms
    · subst e
      have e1 := x.2 _ mp _ mq ns lp kp kq
      have hz : decide (ns < ns) = false := decide_eq_false (lis_irr ns)
      rw [hz] at hQ
      obtain ⟨a, o, xs, n, ea, ho, hc, hdt, _⟩ := kp
      rw [← e1, ea]
      refine PySem.W.kat_lt ho hdt ho hdt ?_
      rw [decide_eq_false (Nat.lt_irrefl _)]
      exact lex_self _ 0 hQ
    · obtain ⟨a, o, xs, n, ea, ho, hc, hdt, ip⟩ := kp
      obtain ⟨a', o', ys, n', ea', ho', hc', hdt', ip'⟩ := kq
      rw [ea, ea']
      exact PySem.W.kat_lt ho hdt ho' hdt' (lex_pre 0 ip ip' (by omega) e hQ)
theorem KeysOk.keeps {h h' : Heap} {d : Nat} {vs : List Value} (x : KeysOk h d vs) (k : ∀ b o, h.get? b = some o → o.cls = .type "tuple" → h'.get? b = some o) : KeysOk h' d vs ∧ ∀ v ∈ vs, keyAt h' d v = keyAt h d v := by
  have e : ∀ v ∈ vs, keyAt h' d v = keyAt h d v := fun v hv => by
    obtain ⟨ns, kn, l⟩ := x.1 v hv
    rw [keyAt_eq kn l, keyAt_eq (kn.keeps k) l]
  refine ⟨⟨fun v hv => ?_, fun u hu v hv ns l k1 k2 => ?_⟩, e⟩
  · obtain ⟨ns, kn, l⟩ := x.1 v hv
    exact ⟨ns, kn.keeps k, l⟩
  · obtain ⟨ms, km, lm⟩ := x.1 u hu
    obtain ⟨js, kj, lj⟩ := x.1 v hv
    have e1 : ms = ns := (km.keeps k).uniq k1 (by omega)
    have e2 : js = ns := (kj.keeps k).uniq k2 (by omega)
    exact x.2 u hu v hv ns l (e1 ▸ km) (e2 ▸ kj)
theorem sort_keys {a : Addr} {vs : List Value} {n d : Nat} {P : PySem.Fin → Shared → Prop} (ho : s.heap.get? a = some (seqObj "list" vs.toArray n)) (small : vs.length < 64) (hd : 1 ≤ d) (x : KeysOk s.heap d vs)
    (h : ∀ out : Array Value, out.toList.Perm vs → out.toList.Pairwise (fun u v => leK (keyAt s.heap d u) (keyAt s.heap d v)) → P (.done (.ret .none)) { s with heap := sortedHeap s.heap a vs out }) : wpAny (model prog w) A (Builtin.«list.sort» ⟨[.ref a], []⟩) P E s := by
  have old : ∀ b o, s.heap.get? b = some o → o.cls = .type "tuple" → (midHeap s.heap a vs).get? b = some o := fun b o e hc => by
    by_cases hb : b = a
    · rw [hb, ho] at e
      cases e
      exact absurd (show Value.type "list" = Value.type "tuple" from hc) (by intro z; injection z with z; exact absurd z (by decide))
    · exact midHeap_old hb e
  obtain ⟨x', same⟩ := x.keeps old
  refine SK.plain_sort (r := fun v => (rankOf (vs.map (keyAt s.heap d)) (keyAt s.heap d v) : Nat)) ho small (fun two Q hQ => kind_keys (s := { s with heap := midHeap s.heap a vs }) hd two x' _ (fun v hv => ?_) Q hQ) fun ps out g1 g2 g3 => ?_
  · show ((rankOf _ _ : Nat) : Int) = (rankOf (vs.map (keyAt (midHeap s.heap a vs) d)) (keyAt (midHeap s.heap a vs) d v) : Nat)
    rw [same v hv, List.map_congr_left same]
  · obtain ⟨pm, ord⟩ := TS.out_rank (r := fun v => (rankOf (vs.map (keyAt s.heap d)) (keyAt s.heap d v) : Nat)) g1 g2 g3
    refine h out pm (List.Pairwise.imp_of_mem (fun {u v} hu hv hle z => ?_) ord)
    have := rank_lt z (List.mem_map.mpr ⟨v, pm.mem_iff.mp hv, rfl⟩)
    omega
theorem sorted_keys {l : Addr} {vs : List Value} {d : Nat} {Q : Value → Shared → Prop} (hl : s.heap.IsList l vs.toArray) (small : vs.length < 64) (hd : 1 ≤ d) (x : KeysOk s.heap d vs)
    (h : ∀ out : Array Value, out.toList.Perm vs → out.toList.Pairwise (fun u v => leK (keyAt s.heap d u) (keyAt s.heap d v)) → Q (.ref (s.heap.objs.size + 1)) { s with heap := sortedAll s.heap vs out }) : wpAny (model prog w) A (call (.builtin "sorted") [.ref l]) Q E s := by
  refine Calls.call_function_entry kind_sorted plain_sorted entry_sorted (args_sorted1 _) ?_
  unfold Builtin.«sorted»
  refine wpAny_bind (m := checkCount "sorted" 1 1 _) (wpAny_pure (wpAny_bind (collect_list hl ?_ (by rw [sizeLine_eq]; omega))))
  refine wpAny_bind (wpAny_newList ?_ (by rw [sizeLine_eq]; omega))
  obtain ⟨G, hG⟩ : ∃ G, G = (s.heap.push (seqObj "list" #[] 0)).update s.heap.objs.size (Obj.mapSeq (· ++ vs.toArray)) := ⟨_, rfl⟩
  have sz : G.objs.size = s.heap.objs.size + 1 := by rw [hG, Heap.size_update, size_push']
  have at1 : (G.push (seqObj "list" vs.toArray 0)).get? (s.heap.objs.size + 1) = some (seqObj "list" vs.toArray 0) := by
    rw [← sz]; exact Heap.get?_push_size _ rfl
  have old : ∀ b o, s.heap.get? b = some o → o.cls = .type "tuple" → (G.push (seqObj "list" vs.toArray 0)).get? b = some o := fun b o q _ => by
    have lt : b < s.heap.objs.size := Heap.lt_size q
    rw [Heap.get?_push_ne _ _ _ (by rw [sz]; exact Nat.ne_of_lt (Nat.lt_succ_of_lt lt)), hG, Heap.get?_update_ne _ _ _ _ (Nat.ne_of_lt lt), Heap.get?_push_ne _ _ _ (Nat.ne_of_lt lt), q]
  obtain ⟨x', same⟩ := x.keeps old
  have g := h
  unfold sortedAll at g
  rw [← hG] at g ⊢
  show wpAny _ _ _ _ _ { s with heap := G.push (seqObj "list" vs.toArray 0) }
  rw [sz]
  refine wpAny_bind (wpAny_holding (wpAny_call_entry slot_list_sort ⟨_, at1, rfl⟩ entry_list_sort (sort_keys (s := { s with heap := G.push (seqObj "list" vs.toArray 0) }) at1 small hd x' fun out pm ord => ⟨_, rfl, wpAny_pure ⟨_, rfl, ?_⟩⟩) (args_list_sort _)))
  refine g out pm (List.Pairwise.imp_of_mem (fun {u v} hu hv le => ?_) ord)
  rw [← same u (pm.mem_iff.mp hu), ← same v (pm.mem_iff.mp hv)]
  exact le
end
end Srt
end TK
namespace TK
open PySem PySem.Spec PyProof.Rows L2
def VPre : List V → List Int → Prop
  | _, [] => True
  | v :: vs, n :: ns => v = .int n ∧ VPre vs ns
  | [], _ :: _ => False
def PreV (K : PySem.W.Frag) (H : Hp) (x : V) (ns : List Int) : Prop := ∃ t vs, x = .ref t ∧ SqT K H t vs ∧ VPre vs ns
theorem VPre.pre : ∀ {vs : List V} {us : List Value} {ns : List Int}, Vals vs us → VPre vs ns → Srt.IntPre us ns
  | _, us, [], _, _ => by cases us <;> trivial
  | [], _, _ :: _, _, h => h.elim
  | v :: vs, _, n :: ns, .cons r rs, h => by
    obtain ⟨rfl, h⟩ := h
    obtain ⟨t, rfl⟩ := r
    exact ⟨⟨t, rfl⟩, h.pre rs⟩
section
variable {X : Cx}
/-- sorted(xs), xs a list of tuples that begin with whole numbers, no two alike in these -/
def rSortK (K : PySem.W.Frag) : List V → Hp → VK → Prop := fun us H Q => ∃ (a : Addr) (xs : List V) (ks : List (List Int)) (d : Nat), us = [.ref a] ∧ SqL K H a xs ∧ xs.length < 64 ∧ 1 ≤ d ∧ ks.length = xs.length ∧
  (∀ p ∈ ks.zip xs, PreV K H p.2 p.1 ∧ p.1.length = d) ∧ ks.Nodup ∧ ∀ p, H p = none → Q (.ref p) (upd H p (.lst ((sortK (ks.zip xs)).map Prod.snd)))
theorem cr_sortK : CallR X (.builtin "sorted") (rSortK X.K) := by
  intro pins s σ H vs us Q I r h
  obtain ⟨a, xs, ks, d, rfl, hs, small, hd, hlen, hk, hn, q⟩ := h
  obtain ⟨its, rv, hl, hz⟩ := I.list hs
  have hil := rv.length
  have key : ∀ (i : Nat) (u : Value), its[i]? = some u → ∃ k t, ks[i]? = some k ∧ xs[i]? = some (.ref t) ∧ u = .ref t ∧ Srt.HasKey s.heap u k ∧ k.length = d := fun i u hu => by
    have hi : i < its.length := (List.getElem?_eq_some_iff.mp hu).1
    have hx : xs[i]? = some xs[i] := List.getElem?_eq_getElem (by omega)
    have hkk : ks[i]? = some ks[i] := List.getElem?_eq_getElem (by omega)
    have hm : (ks[i], xs[i]) ∈ ks.zip xs := List.mem_of_getElem? (List.getElem?_zip_eq_some.mpr ⟨hkk, hx⟩)
    obtain ⟨⟨t, ws, ht, sq, pre⟩, hl2⟩ := hk _ hm
    obtain ⟨its', rv', ⟨o, ho, hc, n, hdt⟩, _⟩ := I.tuple sq
    have hr := rv.get hx
    obtain ⟨u', hu', r'⟩ := hr
    rw [hu] at hu'
    cases hu'
    have hxr : xs[i] = .ref t := ht
    rw [hxr] at r' hx
    have eu : u = .ref t := r'
    subst eu
    exact ⟨_, t, hkk, hx, rfl, ⟨t, o, its'.toArray, n, rfl, ho, hc, hdt, by simpa using pre.pre rv'⟩, hl2⟩
  have mem : ∀ u ∈ its, ∃ (i : Nat) (k : List Int) (t : Addr), its[i]? = some u ∧ ks[i]? = some k ∧ xs[i]? = some (V.ref t) ∧ u = .ref t ∧ Srt.HasKey s.heap u k ∧ k.length = d := fun u hu => by
    obtain ⟨i, hi⟩ := List.mem_iff_getElem?.mp hu
    obtain ⟨k, t, g⟩ := key i u hi
    exact ⟨i, k, t, hi, g⟩
  have isr : ∀ u ∈ its, ∃ t, u = Value.ref t := fun u hu => by
    obtain ⟨_, _, t, _, _, _, e, _⟩ := mem u hu
    exact ⟨t, e⟩
  have pairs : its.map (fun u => (Srt.keyAt s.heap d u, bkV u)) = ks.zip xs := by
    refine List.ext_getElem? fun i => ?_
    rw [List.getElem?_map]
    cases hu : its[i]? with
    | none =>
      have : xs.length ≤ i := by rw [hil]; exact List.getElem?_eq_none_iff.mp hu
      rw [List.getElem?_eq_none (by rw [List.length_zip]; omega)]
      rfl
    | some u =>
      obtain ⟨k, t, g1, g2, g3, g4, g5⟩ := key i u hu
      rw [List.getElem?_zip_eq_some.mpr (⟨g1, g2⟩ : ks[i]? = some (k, V.ref t).1 ∧ xs[i]? = some (k, V.ref t).2), Option.map_some, Srt.keyAt_eq g4 g5, g3]
      rfl
  have okk : Srt.KeysOk s.heap d its := ⟨fun u hu => by
    obtain ⟨_, k, _, _, _, _, _, g, l⟩ := mem u hu
    exact ⟨k, g, l⟩, fun u hu v hv ns l k1 k2 => by
    obtain ⟨i, k, t, a1, a2, _, _, a5, a6⟩ := mem u hu
    obtain ⟨j, k', t', b1, b2, _, _, b5, b6⟩ := mem v hv
    have e1 : k = ns := a5.uniq k1 (by omega)
    have e2 : k' = ns := b5.uniq k2 (by omega)
    subst e1; subst e2
    have hi : i < ks.length := (List.getElem?_eq_some_iff.mp a2).1
    have e3 : i = j := (List.getElem?_inj hi hn).mp (a2.trans b2.symm)
    subst e3
    rw [a1] at b1
    exact Option.some.inj b1⟩
  rw [Vals.ref1 r]
  refine Srt.sorted_keys hl.isList (by omega) hd okk fun out pm ord => ?_
  have zs : out.toList.map (fun u => (Srt.keyAt s.heap d u, bkV u)) = sortK (ks.zip xs) := by
    refine sortK_eq ?_ (by rw [← pairs]; exact pm.map _) (by rw [List.pairwise_map]; exact ord)
    rw [List.map_fst_zip (by omega)]
    exact hn
  have zv : out.toList.map bkV = (sortK (ks.zip xs)).map Prod.snd := by rw [← zs, List.map_map]; rfl
  obtain ⟨ep, at2⟩ := PyProof.Rows.sortedAll_at s.heap its out
  have refs : ∀ u ∈ out.toList, ∃ t, u = Value.ref t := fun u hu => isr u (pm.mem_iff.mp hu)
  have few : (out.toList.map bkV).length ≤ sizeLine := by rw [List.length_map, pm.length_eq]; have := hz; omega
  rw [← zv] at q
  exact ⟨.ref _, upd H (s.heap.objs.size + 1) (.lst (out.toList.map bkV)),
    I.laid (t' := s.toks) (fun _ _ => PyProof.Rows.sortedAll_old) (Nat.le_succ _) ⟨few, out.toList, ep, bkV_vals refs, at2⟩, rfl, q _ (I.hok.fresh (Nat.le_succ _))⟩
end
end TK
/-! TK, part 2: data as they stand in the heap; what an evaluation leaves. Own work. -/
namespace TK
open PySem L2
abbrev LK := Nat → Bool
section
variable (K : PySem.W.Frag) (cA : Nat → Addr)
def HoIs : Kd → List V → HO → Prop
  | .tup, vs, o => o = .tup vs
  | .lst, vs, o => o = .lst vs
  | .scr, _, _ => False
  | .kt, _, _ => False
  | .dK ks, vs, o => ks.length = vs.length ∧ o = .dK (ks.zip vs)
  | .dT ks, vs, o => ks.length = vs.length ∧ o = .dT (ks.zip vs)
  | .ins c ns, vs, o => c < 1000 ∧ ns.length = vs.length ∧ ∃ dx, o = .ins (cA c) dx (ns.zip vs)
def FzIs (S : Hp) (k : Kd) (a : Addr) (vs : List V) : Prop :=
  match k with
  | .kt => SqT K S a vs
  | .scr => SqL K S a vs
  | .ins c ns => ∃ o, S a = some o ∧ (1000 ≤ c → a = cA (1000000000 + c / 1000)) ∧ ns.length = vs.length ∧ ∃ dx, o = .ins (cA c) dx (ns.zip vs)
  | k => ∃ o, S a = some o ∧ HoIs cA k vs o
mutual
inductive Rep (S H : Hp) : D → V → List Addr → Prop
  | non : Rep S H .non .non []
  | bl (b : Bool) : Rep S H (.bl b) (.bl b) []
  | int (i : Int) : Rep S H (.int i) (.int i) []
  | str (x : Str) : Rep S H (.str x) (.str x) []
  | tup {xs : List D} {a : Addr} {vs : List V} {F : List Addr} : S a = some (.tup vs) → Reps S H xs vs F → Rep S H (.nd .tup false xs) (.ref a) F
  | fz {k : Kd} {xs : List D} {a : Addr} {vs : List V} : k ≠ .tup → FzIs K cA S k a vs → Reps S H xs vs [] → fzs xs = true → Rep S H (.nd k false xs) (.ref a) []
  | ow {k : Kd} {xs : List D} {a : Addr} {vs : List V} {o : HO} {F : List Addr} : k ≠ .tup → H a = some o → HoIs cA k vs o → Reps S H xs vs F → Rep S H (.nd k true xs) (.ref a) (a :: F)
inductive Reps (S H : Hp) : List D → List V → List Addr → Prop
  | nil : Reps S H [] [] []
  | cons {d : D} {v : V} {F : List Addr} {ds : List D} {vs : List V} {Fs : List Addr} : Rep S H d v F → Reps S H ds vs Fs → Reps S H (d :: ds) (v :: vs) (F ++ Fs)
end
end
def Sub (S H : Hp) : Prop := ∀ a o, S a = some o → H a = some o
theorem SqT.mono {K : PySem.W.Frag} {S S' : Hp} {a : Addr} {vs : List V} (h : Sub S S') (q : SqT K S a vs) : SqT K S' a vs := by
  rcases q with (q | ⟨o, q⟩) | q
  · exact .inl (.inl (h _ _ q))
  · exact .inl (.inr ⟨o, h _ _ q⟩)
  · exact .inr q
theorem SqL.mono {K : PySem.W.Frag} {S S' : Hp} {a : Addr} {vs : List V} (h : Sub S S') (q : SqL K S a vs) : SqL K S' a vs := Same.seq h q
section
variable {K : PySem.W.Frag} {cA : Nat → Addr} {S S' H H' : Hp}
theorem FzIs.mono (h : Sub S S') : ∀ {k : Kd} {a : Addr} {vs : List V}, FzIs K cA S k a vs → FzIs K cA S' k a vs
  | .tup, _, _, ⟨o, e, q⟩ => ⟨o, h _ _ e, q⟩
  | .kt, _, _, q => SqT.mono h q
  | .scr, _, _, q => SqL.mono h q
  | .lst, _, _, ⟨o, e, q⟩ => ⟨o, h _ _ e, q⟩
  | .dK _, _, _, ⟨o, e, q⟩ => ⟨o, h _ _ e, q⟩
  | .dT _, _, _, ⟨o, e, q⟩ => ⟨o, h _ _ e, q⟩
  | .ins _ _, _, _, ⟨o, e, q⟩ => ⟨o, h _ _ e, q⟩
mutual
theorem Rep.mono (hs : Sub S S') : ∀ (d : D) {v : V} {F : List Addr}, Rep K cA S H d v F → (∀ a ∈ F, H' a = H a) → Rep K cA S' H' d v F
  | .non, _, _, h, _ => by cases h; exact .non
  | .bl _, _, _, h, _ => by cases h; exact .bl _
  | .int _, _, _, h, _ => by cases h; exact .int _
  | .str _, _, _, h, _ => by cases h; exact .str _
  | .nd k o xs, _, _, h, hh => by
    cases h with
    | tup q r => exact .tup (hs _ _ q) (Reps.mono hs xs r hh)
    | fz n q r z => exact .fz n (FzIs.mono hs q) (Reps.mono hs xs r hh) z
    | ow n e q r => exact .ow n ((hh _ List.mem_cons_self).trans e) q (Reps.mono hs xs r fun a ha => hh a (List.mem_cons_of_mem _ ha))
theorem Reps.mono (hs : Sub S S') : ∀ (ds : List D) {vs : List V} {F : List Addr}, Reps K cA S H ds vs F → (∀ a ∈ F, H' a = H a) → Reps K cA S' H' ds vs F
  | [], _, _, h, _ => by cases h; exact .nil
  | d :: ds, _, _, h, hh => by
    cases h with
    | cons r rs => exact .cons (Rep.mono hs d r fun a ha => hh a (List.mem_append_left _ ha)) (Reps.mono hs ds rs fun a ha => hh a (List.mem_append_right _ ha))
end
mutual
/-- what is not owned owns nothing -/
theorem Rep.fz0 : ∀ (d : D) {v : V} {F : List Addr}, Rep K cA S H d v F → d.fz = true → F = []
  | .non, _, _, h, _ => by cases h; rfl
  | .bl _, _, _, h, _ => by cases h; rfl
  | .int _, _, _, h, _ => by cases h; rfl
  | .str _, _, _, h, _ => by cases h; rfl
  | .nd k o xs, _, _, h, hh => by
    simp only [D.fz, Bool.and_eq_true] at hh
    cases h with
    | tup q r => exact Reps.fz0 xs r hh.2
    | fz n q r z => rfl
    | ow n e q r => exact absurd hh.1 (by simp)
theorem Reps.fz0 : ∀ (ds : List D) {vs : List V} {F : List Addr}, Reps K cA S H ds vs F → fzs ds = true → F = []
  | [], _, _, h, _ => by cases h; rfl
  | d :: ds, _, _, h, hh => by
    simp only [D.fz.fzs, Bool.and_eq_true] at hh
    cases h with
    | cons r rs => rw [Rep.fz0 d r hh.1, Reps.fz0 ds rs hh.2]; rfl
end
mutual
/-- what is owned stands in the heap -/
theorem Rep.there : ∀ (d : D) {v : V} {F : List Addr}, Rep K cA S H d v F → ∀ a ∈ F, ∃ o, H a = some o
  | .non, _, _, h => by cases h; intro a ha; exact absurd ha (by simp)
  | .bl _, _, _, h => by cases h; intro a ha; exact absurd ha (by simp)
  | .int _, _, _, h => by cases h; intro a ha; exact absurd ha (by simp)
  | .str _, _, _, h => by cases h; intro a ha; exact absurd ha (by simp)
  | .nd k o xs, _, _, h => by
    cases h with
    | tup q r => exact Reps.there xs r
    | fz n q r z => intro a ha; exact absurd ha (by simp)
    | ow n e q r =>
      intro a ha
      rcases List.mem_cons.mp ha with rfl | ha
      · exact ⟨_, e⟩
      · exact Reps.there xs r a ha
theorem Reps.there : ∀ (ds : List D) {vs : List V} {F : List Addr}, Reps K cA S H ds vs F → ∀ a ∈ F, ∃ o, H a = some o
  | [], _, _, h => by cases h; intro a ha; exact absurd ha (by simp)
  | d :: ds, _, _, h => by
    cases h with
    | cons r rs =>
      intro a ha
      rcases List.mem_append.mp ha with ha | ha
      · exact Rep.there d r a ha
      · exact Reps.there ds rs a ha
end
theorem HoIs.fz {k : Kd} {a : Addr} {vs : List V} {o : HO} (n : k ≠ .tup) (e : S a = some o) (q : HoIs cA k vs o) : FzIs K cA S k a vs := by
  cases k with
  | tup => exact absurd rfl n
  | scr => exact absurd q (by simp [HoIs])
  | kt => exact absurd q (by simp [HoIs])
  | lst => exact ⟨o, e, q⟩
  | dK _ => exact ⟨o, e, q⟩
  | dT _ => exact ⟨o, e, q⟩
  | ins _ _ => exact ⟨o, e, fun z => absurd z (by have := q.1; omega), q.2⟩
mutual
/-- it is locked: its own objects go over to the still part -/
theorem Rep.frz (hs : Sub S S') : ∀ (d : D) {v : V} {F : List Addr}, Rep K cA S H d v F → (∀ a ∈ F, S' a = H a) → Rep K cA S' H' d.fr v []
  | .non, _, _, h, _ => by cases h; exact .non
  | .bl _, _, _, h, _ => by cases h; exact .bl _
  | .int _, _, _, h, _ => by cases h; exact .int _
  | .str _, _, _, h, _ => by cases h; exact .str _
  | .nd k o xs, _, _, h, hh => by
    cases h with
    | tup q r => exact .tup (hs _ _ q) (Reps.frz hs xs r hh)
    | fz n q r z => exact .fz n (FzIs.mono hs q) (Reps.frz hs xs r hh) (fzs_frs xs)
    | ow n e q r =>
      exact .fz n (HoIs.fz n ((hh _ List.mem_cons_self).trans e) q) (Reps.frz hs xs r fun a ha => hh a (List.mem_cons_of_mem _ ha)) (fzs_frs xs)
theorem Reps.frz (hs : Sub S S') : ∀ (ds : List D) {vs : List V} {F : List Addr}, Reps K cA S H ds vs F → (∀ a ∈ F, S' a = H a) → Reps K cA S' H' (frs ds) vs []
  | [], _, _, h, _ => by cases h; exact .nil
  | d :: ds, _, _, h, hh => by
    cases h with
    | cons r rs => exact .cons (F := []) (Fs := []) (Rep.frz hs d r fun a ha => hh a (List.mem_append_left _ ha)) (Reps.frz hs ds rs fun a ha => hh a (List.mem_append_right _ ha))
end
theorem Rep.fzmono {d : D} {v : V} {F : List Addr} (hs : Sub S S') (h : Rep K cA S H d v F) (z : d.fz = true) : Rep K cA S' H' d v [] := by
  have e := Rep.fz0 d h z
  subst e
  exact Rep.mono hs d h fun a ha => absurd ha (by simp)
theorem Reps.fzmono {ds : List D} {vs : List V} {F : List Addr} (hs : Sub S S') (h : Reps K cA S H ds vs F) (z : fzs ds = true) : Reps K cA S' H' ds vs [] := by
  have e := Reps.fz0 ds h z
  subst e
  exact Reps.mono hs ds h fun a ha => absurd ha (by simp)
theorem Reps.length : ∀ {ds : List D} {vs : List V} {F : List Addr}, Reps K cA S H ds vs F → ds.length = vs.length
  | [], _, _, h => by cases h; rfl
  | d :: ds, _, _, h => by
    cases h with
    | cons r rs => simp [Reps.length rs]
theorem Reps.get : ∀ {ds : List D} {vs : List V} {F : List Addr} {j : Nat} {d : D}, Reps K cA S H ds vs F → ds[j]? = some d → ∃ v G, vs[j]? = some v ∧ Rep K cA S H d v G ∧ List.Sublist G F
  | [], _, _, j, d, h, e => by simp at e
  | x :: ds, _, _, 0, d, h, e => by
    cases h with
    | cons r rs =>
      simp at e
      subst e
      exact ⟨_, _, by simp, r, List.sublist_append_left _ _⟩
  | x :: ds, _, _, j + 1, d, h, e => by
    cases h with
    | cons r rs =>
      obtain ⟨v, G, h1, h2, h3⟩ := Reps.get (j := j) rs (by simpa using e)
      exact ⟨v, G, by simpa using h1, h2, h3.trans (List.sublist_append_right _ _)⟩
theorem Reps.append : ∀ {ds es : List D} {vs ws : List V} {F G : List Addr}, Reps K cA S H ds vs F → Reps K cA S H es ws G → Reps K cA S H (ds ++ es) (vs ++ ws) (F ++ G)
  | [], _, _, _, _, _, h, q => by cases h; exact q
  | d :: ds, _, _, _, _, _, h, q => by
    cases h with
    | cons r rs =>
      rw [List.append_assoc]
      exact .cons r (Reps.append rs q)
/-- nothing owned: by the places -/
theorem Reps.of_get : ∀ {ds : List D} {vs : List V}, ds.length = vs.length → (∀ (j : Nat) (d : D) (v : V), ds[j]? = some d → vs[j]? = some v → Rep K cA S H d v []) → Reps K cA S H ds vs []
  | [], [], _, _ => .nil
  | [], _ :: _, h, _ => by simp at h
  | _ :: _, [], h, _ => by simp at h
  | d :: ds, v :: vs, h, g => .cons (F := []) (Fs := []) (g 0 d v rfl rfl) (Reps.of_get (by simpa using h) fun j d' v' h1 h2 => g (j + 1) d' v' (by simpa using h1) (by simpa using h2))
end
/-! ### the state of a body -/
section
variable (K : PySem.W.Frag) (cA : Nat → Addr)
structure Stt (S H : Hp) (r : Env) (s : St) (p : Nat → List Addr) : Prop where
  sub : Sub S H
  len : r.length = s.length
  rep : ∀ i d, gt r i = some d → ∃ v, s[i]? = some (some v) ∧ Rep K cA S H d v (p i)
  emp : ∀ i, gt r i = none → p i = []
  nd : ∀ i, (p i).Nodup
  dj : ∀ i j a, i ≠ j → a ∈ p i → a ∈ p j → False
  own : ∀ i a, a ∈ p i → S a = none
structure Tmp (S : Hp) (p : Nat → List Addr) (F : List Addr) : Prop where
  nd : F.Nodup
  dj : ∀ i a, a ∈ p i → a ∈ F → False
  own : ∀ a ∈ F, S a = none
/-- from (r, p, S, H) to (r', p', S', H') with F new in the hand; the slots of L are let be -/
structure Eff (L : LK) (r : Env) (p : Nat → List Addr) (S H : Hp) (r' : Env) (p' : Nat → List Addr) (F : List Addr) (S' H' : Hp) : Prop where
  sub : Sub S S'
  keep : ∀ a o, H a = some o → (∀ i, L i = false → a ∉ p i) → H' a = some o
  cap : ∀ a o, S' a = some o → S a = some o ∨ H a = none ∨ ∃ i, L i = false ∧ a ∈ p i
  same : ∀ i, L i = true → gt r' i = gt r i ∧ p' i = p i
  new : ∀ i a, L i = false → a ∈ p' i → H a = none ∨ ∃ j, L j = false ∧ a ∈ p j
  tmp : ∀ a ∈ F, H a = none ∨ ∃ j, L j = false ∧ a ∈ p j
  len : r'.length = r.length
/-- the place P within d0 (as v0) holds d (as v) -/
inductive AtP (S H : Hp) : D → V → List Nat → D → V → Prop
  | nil {d : D} {v : V} : AtP S H d v [] d v
  | tup {xs : List D} {a : Addr} {vs : List V} {j : Nat} {x d : D} {w v : V} {p : List Nat} : S a = some (.tup vs) → xs[j]? = some x → vs[j]? = some w → AtP S H x w p d v → AtP S H (.nd .tup false xs) (.ref a) (j :: p) d v
  | ow {k : Kd} {xs : List D} {a : Addr} {vs : List V} {o : HO} {j : Nat} {x d : D} {w v : V} {p : List Nat} : k ≠ .tup → H a = some o → HoIs cA k vs o → xs[j]? = some x → vs[j]? = some w → AtP S H x w p d v → AtP S H (.nd k true xs) (.ref a) (j :: p) d v
def RRep (S H : Hp) (r : Env) (s : St) (p : Nat → List Addr) : R → V → List Addr → Prop
  | .sl i, v, F => s[i]? = some (some v) ∧ F = []
  | .tm d, v, F => Rep K cA S H d v F ∧ Tmp S p F
  | .sn q P d, v, F => F = [] ∧ ∃ d0 v0, gt r q = some d0 ∧ s[q]? = some (some v0) ∧ AtP cA S H d0 v0 P d v
/-- several, from the left -/
inductive RReps (S H : Hp) (r : Env) (s : St) (p : Nat → List Addr) : List R → List V → List Addr → Prop
  | nil : RReps S H r s p [] [] []
  | cons {x : R} {v : V} {F : List Addr} {xs : List R} {vs : List V} {G : List Addr} : RRep K cA S H r s p x v F → RReps S H r s p xs vs G → (∀ a ∈ F, a ∈ G → False) → RReps S H r s p (x :: xs) (v :: vs) (F ++ G)
end
section
variable {K : PySem.W.Frag} {cA : Nat → Addr} {L : LK} {r r' r1 r2 : Env} {p p' p1 p2 : Nat → List Addr} {S S' S1 S2 H H' H1 H2 : Hp} {F F1 F2 : List Addr} {s : St}
theorem Eff.refl : Eff L r p S H r p [] S H :=
  ⟨fun _ _ h => h, fun _ _ h _ => h, fun _ _ h => .inl h, fun _ _ => ⟨rfl, rfl⟩, fun i a h q => .inr ⟨i, h, q⟩, fun a h => absurd h (by simp), rfl⟩
theorem Eff.weak {L' : LK} (h : Eff L' r p S H r' p' F S' H') (hl : ∀ i, L i = true → L' i = true) : Eff L r p S H r' p' F S' H' := by
  have hf : ∀ i, L' i = false → L i = false := fun i q => by
    cases e : L i with
    | false => rfl
    | true => rw [hl i e] at q; cases q
  refine ⟨h.sub, fun a o e q => h.keep a o e fun i z => q i (hf i z), fun a o e => ?_, fun i z => h.same i (hl i z), fun i a z q => ?_, fun a q => ?_, h.len⟩
  · rcases h.cap a o e with z | z | ⟨i, z, q⟩
    · exact .inl z
    · exact .inr (.inl z)
    · exact .inr (.inr ⟨i, hf i z, q⟩)
  · cases e : L' i with
    | true =>
      rw [(h.same i e).2] at q
      exact .inr ⟨i, z, q⟩
    | false =>
      rcases h.new i a e q with z' | ⟨j, z', q'⟩
      · exact .inl z'
      · exact .inr ⟨j, hf j z', q'⟩
  · rcases h.tmp a q with z' | ⟨j, z', q'⟩
    · exact .inl z'
    · exact .inr ⟨j, hf j z', q'⟩
theorem Eff.back (h : Eff L r p S H r1 p1 F1 S1 H1) {a : Addr} (q : H1 a = none ∨ ∃ i, L i = false ∧ a ∈ p1 i) : H a = none ∨ ∃ i, L i = false ∧ a ∈ p i := by
  rcases q with q | ⟨i, z, q⟩
  · cases e : H a with
    | none => exact .inl rfl
    | some o =>
      by_cases hx : ∃ i, L i = false ∧ a ∈ p i
      · exact .inr hx
      · rw [h.keep a o e fun i z q' => hx ⟨i, z, q'⟩] at q
        cases q
  · exact h.new i a z q
theorem Eff.trans (h : Eff L r p S H r1 p1 F1 S1 H1) (g : Eff L r1 p1 S1 H1 r2 p2 F2 S2 H2) : Eff L r p S H r2 p2 (F1 ++ F2) S2 H2 := by
  refine ⟨fun a o e => g.sub a o (h.sub a o e), fun a o e q => ?_, fun a o e => ?_, fun i z => ?_, fun i a z q => h.back (g.new i a z q), fun a q => ?_, g.len.trans h.len⟩
  · refine g.keep a o (h.keep a o e q) fun i z q' => ?_
    rcases h.new i a z q' with z' | ⟨j, z', q''⟩
    · rw [e] at z'; cases z'
    · exact q j z' q''
  · rcases g.cap a o e with z | z
    · exact h.cap a o z
    · exact .inr (h.back z)
  · exact ⟨(g.same i z).1.trans (h.same i z).1, (g.same i z).2.trans (h.same i z).2⟩
  · rcases List.mem_append.mp q with q | q
    · exact h.tmp a q
    · exact h.back (g.tmp a q)
theorem Eff.drop (h : Eff L r p S H r' p' F S' H') {G : List Addr} (hg : ∀ a ∈ G, a ∈ F) : Eff L r p S H r' p' G S' H' :=
  ⟨h.sub, h.keep, h.cap, h.same, h.new, fun a q => h.tmp a (hg a q), h.len⟩
theorem Tmp.nil : Tmp S p [] := ⟨List.nodup_nil, fun _ _ _ h => absurd h (by simp), fun _ h => absurd h (by simp)⟩
theorem Tmp.sub (t : Tmp S p F) {G : List Addr} (h : List.Sublist G F) : Tmp S p G :=
  ⟨t.nd.sublist h, fun i a q q' => t.dj i a q (h.subset q'), fun a q => t.own a (h.subset q)⟩
/-- what is in the hand stays through what is done next -/
theorem Tmp.carry {d : D} {v : V} (t : Tmp S p F) (rp : Rep K cA S H d v F) (g : Eff L r p S H r1 p1 F1 S1 H1) : Rep K cA S1 H1 d v F ∧ Tmp S1 p1 F ∧ ∀ a ∈ F, a ∈ F1 → False := by
  have th := Rep.there d rp
  have no : ∀ a ∈ F, ¬ (H a = none ∨ ∃ i, L i = false ∧ a ∈ p i) := fun a ha q => by
    rcases q with q | ⟨i, _, q⟩
    · obtain ⟨o, e⟩ := th a ha; rw [e] at q; cases q
    · exact t.dj i a q ha
  refine ⟨Rep.mono g.sub d rp fun a ha => ?_, ⟨t.nd, fun i a q ha => ?_, fun a ha => ?_⟩, fun a ha q => no a ha (g.tmp a q)⟩
  · obtain ⟨o, e⟩ := th a ha
    rw [e]
    exact g.keep a o e fun i _ q => t.dj i a q ha
  · cases e : L i with
    | true => rw [(g.same i e).2] at q; exact t.dj i a q ha
    | false => exact no a ha (g.new i a e q)
  · cases e : S1 a with
    | none => rfl
    | some o =>
      rcases g.cap a o e with z | z
      · rw [t.own a ha] at z; cases z
      · exact (no a ha z).elim
/-- a slot that is let be stays as it is -/
theorem Eff.still (st : Stt K cA S H r s p) (g : Eff L r p S H r1 p1 F1 S1 H1) {i : Nat} (hi : L i = true) : ∀ a ∈ p i, H1 a = H a := fun a ha => by
  cases e : gt r i with
  | none => rw [st.emp i e] at ha; exact absurd ha (by simp)
  | some d =>
    obtain ⟨v, _, rp⟩ := st.rep i d e
    obtain ⟨o, q⟩ := Rep.there d rp a ha
    rw [q]
    refine g.keep a o q fun j hj q' => ?_
    by_cases hij : j = i
    · subst hij; rw [hi] at hj; cases hj
    · exact st.dj j i a hij q' ha
theorem AtP.rep : ∀ {P : List Nat} {d0 : D} {v0 : V} {F0 : List Addr} {d : D} {v : V}, AtP cA S H d0 v0 P d v → Rep K cA S H d0 v0 F0 → ∃ F, Rep K cA S H d v F ∧ List.Sublist F F0
  | [], _, _, _, _, _, h, rp => by cases h; exact ⟨_, rp, List.Sublist.refl _⟩
  | j :: P, _, _, _, _, _, h, rp => by
    cases h with
    | tup q e1 e2 h =>
      cases rp with
      | tup q' rs =>
        rw [q] at q'; cases q'
        obtain ⟨w, G, e3, rp', sl⟩ := Reps.get rs e1
        rw [e2] at e3; cases e3
        obtain ⟨F, rp2, sl2⟩ := AtP.rep h rp'
        exact ⟨F, rp2, sl2.trans sl⟩
      | fz n q' rs z => exact absurd rfl n
    | ow n e q e1 e2 h =>
      cases rp with
      | ow n' e' q' rs =>
        rw [e] at e'; cases e'
        obtain ⟨w, G, e3, rp', sl⟩ := Reps.get rs e1
        have ev : w = _ := Option.some.inj (e3.symm.trans (by
          rw [← e2]
          congr 1
          rename_i k xs a vs o x w2 F2 vs2
          cases k with
          | tup => exact absurd rfl n
          | scr => exact absurd q (by simp [HoIs])
          | kt => exact absurd q (by simp [HoIs])
          | lst => cases q; cases q'; rfl
          | dK ks =>
            obtain ⟨l1, rfl⟩ := q
            obtain ⟨l2, z⟩ := q'
            injection z with z
            have := congrArg (List.map Prod.snd) z
            rw [List.map_snd_zip (by omega), List.map_snd_zip (by omega)] at this
            exact this.symm
          | dT ks =>
            obtain ⟨l1, rfl⟩ := q
            obtain ⟨l2, z⟩ := q'
            injection z with z
            have := congrArg (List.map Prod.snd) z
            rw [List.map_snd_zip (by omega), List.map_snd_zip (by omega)] at this
            exact this.symm
          | ins c ns =>
            obtain ⟨_, l1, dx, rfl⟩ := q
            obtain ⟨_, l2, dy, z⟩ := q'
            injection z with _ _ z
            have := congrArg (List.map Prod.snd) z
            rw [List.map_snd_zip (by omega), List.map_snd_zip (by omega)] at this
            exact this.symm))
        subst ev
        obtain ⟨F, rp2, sl2⟩ := AtP.rep h rp'
        exact ⟨F, rp2, (sl2.trans sl).trans (List.sublist_cons_self _ _)⟩
end
end TK
/-! TK, part 3: readings by an evaluation; two and more in a row. Own work. -/
namespace TK
open PySem L2
section
variable (K : PySem.W.Frag) (cA : Nat → Addr)
/-- an expression by its evaluation g -/
def tX (L : LK) (g : Env → Option (R × Env)) : TE := fun s H Q => ∃ S r p x r', Stt K cA S H r s p ∧ g r = some (x, r') ∧
  ∀ v S' H' p' F, Stt K cA S' H' r' s p' → RRep K cA S' H' r' s p' x v F → Eff L r p S H r' p' F S' H' → Q v H'
def tXs (L : LK) (g : Env → Option (List R × Env)) : TA := fun s H Q => ∃ S r p xs r', Stt K cA S H r s p ∧ g r = some (xs, r') ∧
  ∀ vs S' H' p' F, Stt K cA S' H' r' s p' → RReps K cA S' H' r' s p' xs vs F → Eff L r p S H r' p' F S' H' → Q vs H'
def tT (L : LK) (g : Env → Option (Bool × Env)) : TT := fun s H Q => ∃ S r p b r', Stt K cA S H r s p ∧ g r = some (b, r') ∧
  ∀ S' H' p', Stt K cA S' H' r' s p' → Eff L r p S H r' p' [] S' H' → Q b H'
/-- what a pure operation gives -/
def Pr (S H : Hp) (d : D) (Q : VK) : Prop := ∀ v S' H' F, Sub S S' → Same H H' → (∀ a o, S' a = some o → S a = some o ∨ H a = none) → Sub S' H' → Rep K cA S' H' d v F → F.Nodup → (∀ a ∈ F, H a = none ∧ S' a = none) → Q v H'
end
theorem PE.imp {X : Cx} {e : Expr} {t u : TE} (h : PE X e t) (f : ∀ s H Q, u s H Q → t s H Q) : PE X e u := ⟨fun pins s σ H Q I w => h.run pins s σ H Q I (f _ _ _ w)⟩
theorem PT.imp {X : Cx} {e : Expr} {t u : TT} (h : PT X e t) (f : ∀ s H Q, u s H Q → t s H Q) : PT X e u := ⟨fun pins s σ H Q I w => h.run pins s σ H Q I (f _ _ _ w)⟩
theorem PW.imp {X : Cx} {e : Expr} {t u : TT} (h : PW X e t) (f : ∀ s H Q, u s H Q → t s H Q) : PW X e u := ⟨fun wh pins s σ H Q I w => h.run wh pins s σ H Q I (f _ _ _ w)⟩
theorem PA.imp {X : Cx} {e : List Expr} {t u : TA} (h : PA X e t) (f : ∀ s H Q, u s H Q → t s H Q) : PA X e u := ⟨fun pos pins s σ H Q I w => h.run pos pins s σ H Q I (f _ _ _ w)⟩
theorem PS.imp {X : Cx} {e : Stmt} {t u : TS} (h : PS X e t) (f : ∀ D s H, u D s H → t D s H) : PS X e u := ⟨fun pins s σ H D I w => h.run pins s σ H D I (f _ _ _ w)⟩
theorem PSs.imp {X : Cx} {e : List Stmt} {t u : TS} (h : PSs X e t) (f : ∀ D s H, u D s H → t D s H) : PSs X e u := ⟨fun pins s σ H D I w => h.run pins s σ H D I (f _ _ _ w)⟩
section
variable {K : PySem.W.Frag} {cA : Nat → Addr} {L Lb : LK} {r r' r1 r2 : Env} {p p' p1 p2 : Nat → List Addr} {S S' S1 S2 H H' H1 H2 : Hp} {F F1 F2 : List Addr} {s : St}
theorem AtP.mono (hs : Sub S S') : ∀ {P : List Nat} {d0 : D} {v0 : V} {F0 : List Addr} {d : D} {v : V}, AtP cA S H d0 v0 P d v → Rep K cA S H d0 v0 F0 → (∀ a ∈ F0, H' a = H a) → AtP cA S' H' d0 v0 P d v
  | [], _, _, _, _, _, h, _, _ => by cases h; exact .nil
  | j :: P, _, _, _, _, _, h, rp, hh => by
    cases h with
    | tup q e1 e2 h =>
      cases rp with
      | tup q' rs =>
        rw [q] at q'; cases q'
        obtain ⟨w, G, e3, rp', sl⟩ := Reps.get rs e1
        rw [e2] at e3; cases e3
        exact .tup (hs _ _ q) e1 e2 (AtP.mono hs h rp' fun a ha => hh a (sl.subset ha))
      | fz n q' rs z => exact absurd rfl n
    | ow n e q e1 e2 h =>
      cases rp with
      | ow n' e' q' rs =>
        have ea := e
        rw [e] at e'; cases e'
        obtain ⟨F, rp2, sl2⟩ := AtP.rep (AtP.ow n ea q e1 e2 (AtP.nil (cA := cA) (S := S) (H := H))) (Rep.ow (K := K) n ea q' rs)
        -- the child's own part of the footprint
        have hsub : ∀ a ∈ F, H' a = H a := fun a ha => hh a (sl2.subset ha)
        exact .ow n ((hh _ List.mem_cons_self).trans ea) q e1 e2 (AtP.mono hs h rp2 hsub)
theorem RRep.carry {x : R} {v : V} (st : Stt K cA S H r s p) (rr : RRep K cA S H r s p x v F) (g : Eff Lb r p S H r1 p1 F1 S1 H1) (hr : ∀ q P d, x = .sn q P d → Lb q = true) :
    RRep K cA S1 H1 r1 s p1 x v F ∧ ∀ a ∈ F, a ∈ F1 → False := by
  cases x with
  | sl i => exact ⟨rr, by rw [rr.2]; intro a ha; exact absurd ha (by simp)⟩
  | tm d =>
    obtain ⟨rp, t⟩ := rr
    obtain ⟨a1, a2, a3⟩ := t.carry rp g
    exact ⟨⟨a1, a2⟩, a3⟩
  | sn q P d =>
    obtain ⟨e, d0, v0, e1, e2, at_⟩ := rr
    have hq := hr q P d rfl
    obtain ⟨w, e3, rp⟩ := st.rep q d0 e1
    rw [e2] at e3; cases e3
    refine ⟨⟨e, d0, v0, (g.same q hq).1.trans e1, e2, AtP.mono g.sub at_ rp fun a ha => Eff.still st g hq a ha⟩, ?_⟩
    rw [e]
    intro a ha
    exact absurd ha (by simp)
theorem RReps.carry {xs : List R} {vs : List V} (st : Stt K cA S H r s p) (rr : RReps K cA S H r s p xs vs F) (g : Eff Lb r p S H r1 p1 F1 S1 H1) (hr : ∀ q P d, R.sn q P d ∈ xs → Lb q = true) :
    RReps K cA S1 H1 r1 s p1 xs vs F ∧ ∀ a ∈ F, a ∈ F1 → False := by
  induction rr with
  | nil => exact ⟨.nil, fun a ha => absurd ha (by simp)⟩
  | cons h hs dj ih =>
    obtain ⟨a1, a2⟩ := RRep.carry st h g fun q P d e => hr q P d (by rw [e]; exact List.mem_cons_self)
    obtain ⟨b1, b2⟩ := ih fun q P d e => hr q P d (List.mem_cons_of_mem _ e)
    exact ⟨.cons a1 b1 dj, fun a ha q => (List.mem_append.mp ha).elim (fun z => a2 a z q) fun z => b2 a z q⟩
/-- what a result tells when all is evaluated -/
theorem RRep.get {x : R} {v : V} {d : D} (st : Stt K cA S H r s p) (rr : RRep K cA S H r s p x v F) (h : x.get r = some d) : ∃ G, Rep K cA S H d v G := by
  cases x with
  | sl i =>
    obtain ⟨w, e, rp⟩ := st.rep i d h
    rw [rr.1] at e; cases e
    exact ⟨_, rp⟩
  | tm d' =>
    cases (Option.some.inj h)
    exact ⟨_, rr.1⟩
  | sn q P d' =>
    cases (Option.some.inj h)
    obtain ⟨e, d0, v0, e1, e2, at_⟩ := rr
    obtain ⟨w, e3, rp⟩ := st.rep q d0 e1
    rw [e2] at e3; cases e3
    obtain ⟨G, rp2, _⟩ := AtP.rep at_ rp
    exact ⟨G, rp2⟩
inductive All2 {α β : Type} (f : α → β → Prop) : List α → List β → Prop
  | nil : All2 f [] []
  | cons {a : α} {b : β} {as : List α} {bs : List β} : f a b → All2 f as bs → All2 f (a :: as) (b :: bs)
theorem RReps.gets {xs : List R} {vs : List V} {ds : List D} (st : Stt K cA S H r s p) (rr : RReps K cA S H r s p xs vs F) (h : gets r xs = some ds) : All2 (fun d v => ∃ G, Rep K cA S H d v G) ds vs := by
  induction rr generalizing ds with
  | nil => cases h; exact .nil
  | cons h1 hs dj ih =>
    unfold TK.gets at h
    split at h
    · rename_i d ds' e1 e2
      cases h
      exact .cons (RRep.get st h1 e1) (ih e2)
    · cases h
theorem Stt.ext (st : Stt K cA S H r s p) (hs : Sub S S') (hh : Same H H') (cap : ∀ a o, S' a = some o → S a = some o ∨ H a = none) (sub : Sub S' H') : Stt K cA S' H' r s p := by
  have th : ∀ i a, a ∈ p i → ∃ o, H a = some o := fun i a ha => by
    cases e : gt r i with
    | none => rw [st.emp i e] at ha; exact absurd ha (by simp)
    | some d =>
      obtain ⟨v, _, rp⟩ := st.rep i d e
      exact Rep.there d rp a ha
  refine ⟨sub, st.len, fun i d e => ?_, st.emp, st.nd, st.dj, fun i a ha => ?_⟩
  · obtain ⟨v, e1, rp⟩ := st.rep i d e
    refine ⟨v, e1, Rep.mono hs d rp fun a ha => ?_⟩
    obtain ⟨o, q⟩ := th i a ha
    rw [q, hh _ _ q]
  · cases e : S' a with
    | none => rfl
    | some o =>
      rcases cap a o e with z | z
      · rw [st.own i a ha] at z; cases z
      · obtain ⟨o', q⟩ := th i a ha
        rw [q] at z; cases z
theorem Eff.ext (hs : Sub S S') (hh : Same H H') (cap : ∀ a o, S' a = some o → S a = some o ∨ H a = none) (hf : ∀ a ∈ F, H a = none) : Eff L r p S H r p F S' H' :=
  ⟨hs, fun a o e _ => hh a o e, fun a o e => (cap a o e).elim .inl fun z => .inr (.inl z), fun _ _ => ⟨rfl, rfl⟩, fun i a h q => .inr ⟨i, h, q⟩, fun a h => .inl (hf a h), rfl⟩
theorem Stt.there (st : Stt K cA S H r s p) {i : Nat} {a : Addr} (ha : a ∈ p i) : ∃ o, H a = some o := by
  cases e : gt r i with
  | none => rw [st.emp i e] at ha; exact absurd ha (by simp)
  | some d =>
    obtain ⟨v, _, rp⟩ := st.rep i d e
    exact Rep.there d rp a ha
/-- the end of a pure operation -/
theorem Pr.fin {S0 H0 : Hp} {r0 : Env} {p0 : Nat → List Addr} {d : D} {Q : VK} (st : Stt K cA S H r s p) (e : Eff L r0 p0 S0 H0 r p F S H)
    (k : ∀ v S' H' p' F', Stt K cA S' H' r s p' → RRep K cA S' H' r s p' (.tm d) v F' → Eff L r0 p0 S0 H0 r p' F' S' H' → Q v H') : Pr K cA S H d Q := by
  intro v S' H' F' hs hh cap sub rp nd hf
  refine k v S' H' p F' (st.ext hs hh cap sub) ⟨rp, nd, fun i a q ha => ?_, fun a ha => (hf a ha).2⟩ ((e.trans (Eff.ext hs hh cap fun a ha => (hf a ha).1)).drop fun a ha => List.mem_append_right _ ha)
  obtain ⟨o, z⟩ := st.there q
  rw [(hf a ha).1] at z; cases z
theorem Pr.scal {d : D} {v : V} {Q : VK} (sub : Sub S H) (h : Pr K cA S H d Q) (rp : Rep K cA S H d v []) : Q v H :=
  h v S H [] (fun _ _ e => e) (fun _ _ e => e) (fun _ _ e => .inl e) sub rp List.nodup_nil fun a ha => absurd ha (by simp)
theorem Pr.ol {xs : List D} {vs : List V} {Q : VK} (sub : Sub S H) (h : Pr K cA S H (.ol xs) Q) (rp : Reps K cA S H xs vs []) {a : Addr} (hn : H a = none) : Q (.ref a) (upd H a (.lst vs)) := by
  have same : Same H (upd H a (.lst vs)) := fun b o e => by rw [upd_ne (ne_of_none e hn)]; exact e
  have sn : S a = none := by
    cases e : S a with
    | none => rfl
    | some o => rw [sub a o e] at hn; cases hn
  refine h _ S (upd H a (.lst vs)) [a] (fun _ _ e => e) same (fun _ _ e => .inl e) (fun b o e => same b o (sub b o e)) (Rep.ow (F := []) (by decide) upd_same rfl (Reps.mono (fun _ _ e => e) xs rp fun b hb => absurd hb (by simp))) (by simp) fun b hb => ?_
  have : b = a := by simpa using hb
  subst this
  exact ⟨hn, sn⟩
theorem Pr.tup {xs : List D} {vs : List V} {Q : VK} (sub : Sub S H) (h : Pr K cA S H (.tup xs) Q) (rp : Reps K cA S H xs vs []) {a : Addr} (hn : H a = none) : Q (.ref a) (upd H a (.tup vs)) := by
  have same : Same H (upd H a (.tup vs)) := fun b o e => by rw [upd_ne (ne_of_none e hn)]; exact e
  have sn : S a = none := by
    cases e : S a with
    | none => rfl
    | some o => rw [sub a o e] at hn; cases hn
  have hs : Sub S (upd S a (.tup vs)) := fun b o e => by rw [upd_ne (ne_of_none e sn)]; exact e
  refine h _ (upd S a (.tup vs)) (upd H a (.tup vs)) [] hs same (fun b o e => ?_) (fun b o e => ?_) (Rep.tup upd_same (Reps.mono hs xs rp fun b hb => absurd hb (by simp))) List.nodup_nil fun b hb => absurd hb (by simp)
  · by_cases z : b = a
    · subst z; exact .inr hn
    · rw [upd_ne z] at e; exact .inl e
  · by_cases z : b = a
    · subst z; rw [upd_same] at e ⊢; exact e
    · rw [upd_ne z] at e ⊢; exact sub b o e
/-- two in a row -/
theorem seq2 {ga gb : Env → Option (R × Env)} {xa xb : R} {Q : V → V → Hp → Prop} (st : Stt K cA S H r s p) (ha : ga r = some (xa, r1)) (hb : gb r1 = some (xb, r2)) (root : ∀ q P d, xa = .sn q P d → Lb q = true) (hl : ∀ i, L i = true → Lb i = true)
    (k : ∀ x y S2 H2 p2 F, Stt K cA S2 H2 r2 s p2 → RReps K cA S2 H2 r2 s p2 [xa, xb] [x, y] F → Eff L r p S H r2 p2 F S2 H2 → Q x y H2) :
    tX K cA L ga s H (fun x H1 => tX K cA Lb gb s H1 (fun y H2 => Q x y H2)) := by
  refine ⟨S, r, p, xa, r1, st, ha, fun x S1 H1 p1 F1 st1 rr1 e1 => ⟨S1, r1, p1, xb, r2, st1, hb, fun y S2 H2 p2 F2 st2 rr2 e2 => ?_⟩⟩
  obtain ⟨c1, c2⟩ := RRep.carry st1 rr1 e2 root
  exact k x y S2 H2 p2 (F1 ++ (F2 ++ [])) st2 (.cons c1 (.cons rr2 .nil fun a _ z => absurd z (by simp)) (by simpa using c2)) (by simpa using e1.trans (e2.weak hl))
end
end TK
/-! TK, part 4: == and in over data. Own work. -/
namespace TK
open PySem L2 PySem.SeqAt
section
variable {X : Cx} {cA : Nat → Addr} {S H : Hp} {pins : List (Addr × Obj)} {σ : L2.St} {s : Shared}
/-- a sequence stands as such -/
theorem Rep.seq {k : Kd} {o : Bool} {xs : List D} {v : V} {F : List Addr} (sub : Sub S H) (rp : Rep X.K cA S H (.nd k o xs) v F) :
    (k.sq = 1 → ∃ a vs G, v = .ref a ∧ SqT X.K H a vs ∧ Reps X.K cA S H xs vs G) ∧ (k.sq = 2 → ∃ a vs G, v = .ref a ∧ SqL X.K H a vs ∧ Reps X.K cA S H xs vs G) := by
  cases rp with
  | tup q rs => exact ⟨fun _ => ⟨_, _, _, rfl, SqT.of (sub _ _ q), rs⟩, fun z => absurd z (by simp [Kd.sq])⟩
  | fz n q rs z =>
    cases k with
    | kt => exact ⟨fun _ => ⟨_, _, _, rfl, SqT.mono sub q, rs⟩, fun z => absurd z (by simp [Kd.sq])⟩
    | lst =>
      obtain ⟨o, e, rfl⟩ := q
      exact ⟨fun z => absurd z (by simp [Kd.sq]), fun _ => ⟨_, _, _, rfl, SqL.of (sub _ _ e), rs⟩⟩
    | tup => exact absurd rfl n
    | scr => exact ⟨fun z => absurd z (by simp [Kd.sq]), fun z => absurd z (by simp [Kd.sq])⟩
    | dK _ => exact ⟨fun z => absurd z (by simp [Kd.sq]), fun z => absurd z (by simp [Kd.sq])⟩
    | dT _ => exact ⟨fun z => absurd z (by simp [Kd.sq]), fun z => absurd z (by simp [Kd.sq])⟩
    | ins _ _ => exact ⟨fun z => absurd z (by simp [Kd.sq]), fun z => absurd z (by simp [Kd.sq])⟩
  | ow n e q rs =>
    cases k with
    | lst =>
      cases q
      exact ⟨fun z => absurd z (by simp [Kd.sq]), fun _ => ⟨_, _, _, rfl, SqL.of e, rs⟩⟩
    | tup => exact absurd rfl n
    | scr => exact ⟨fun z => absurd z (by simp [Kd.sq]), fun z => absurd z (by simp [Kd.sq])⟩
    | kt => exact absurd q (by simp [HoIs])
    | dK _ => exact ⟨fun z => absurd z (by simp [Kd.sq]), fun z => absurd z (by simp [Kd.sq])⟩
    | dT _ => exact ⟨fun z => absurd z (by simp [Kd.sq]), fun z => absurd z (by simp [Kd.sq])⟩
    | ins _ _ => exact ⟨fun z => absurd z (by simp [Kd.sq]), fun z => absurd z (by simp [Kd.sq])⟩
theorem Kd.sq_cases (k : Kd) : k.sq = 0 ∨ k.sq = 1 ∨ k.sq = 2 := by cases k <;> simp [Kd.sq]
theorem eqs_len {f : D → D → Option Bool} : ∀ {xs ys : List D} {k : Bool}, eqs f xs ys = some k → xs.length ≠ ys.length → k = false
  | [], [], _, h, n => absurd rfl n
  | [], _ :: _, _, h, _ => by cases h; rfl
  | _ :: _, [], _, h, _ => by cases h; rfl
  | x :: xs, y :: ys, k, h, n => by
    unfold eqs at h
    split at h
    · split at h
      · rename_i a _ b e
        cases h
        rw [eqs_len e fun z => n (by simp [z]), Bool.and_false]
      · cases h
    · cases h
/-- the answers of the pairs -/
theorem eqs_all {f : D → D → Option Bool} : ∀ {xs ys : List D} {k : Bool}, eqs f xs ys = some k → ∃ e : Nat → Bool, (∀ j (x y : D), xs[j]? = some x → ys[j]? = some y → eqi f x y = some (e j)) ∧ k = ((List.range (min xs.length ys.length)).all e && xs.length == ys.length)
  | [], [], _, h => by cases h; exact ⟨fun _ => true, fun j x y h1 => by simp at h1, by simp⟩
  | [], _ :: _, _, h => by cases h; exact ⟨fun _ => true, fun j x y h1 => by simp at h1, by simp⟩
  | _ :: _, [], _, h => by cases h; exact ⟨fun _ => true, fun j x y h1 h2 => by simp at h2, by simp⟩
  | x :: xs, y :: ys, k, h => by
    unfold eqs at h
    split at h
    · rename_i a ea
      split at h
      · rename_i b eb
        cases h
        obtain ⟨e, h1, h2⟩ := eqs_all eb
        refine ⟨fun j => match j with | 0 => a | j + 1 => e j, fun j x' y' hx hy => ?_, ?_⟩
        · cases j with
          | zero => simp at hx hy; subst hx hy; exact ea
          | succ j => exact h1 j x' y' (by simpa using hx) (by simpa using hy)
        · rw [h2]
          simp only [List.length_cons, Nat.succ_min_succ, List.range_succ_eq_map, List.all_cons, List.all_map]
          have e1 : ((fun j => match j with | 0 => a | j + 1 => e j) ∘ Nat.succ) = e := rfl
          rw [e1, Bool.and_assoc]
          congr 2
          simp
      · cases h
    · cases h
theorem eqi_cases {f : D → D → Option Bool} {x y : D} {k : Bool} (h : eqi f x y = some k) : (tagEq x y = true ∧ k = true) ∨ f x y = some k := by
  unfold eqi at h
  split at h
  · rename_i e; cases h; exact .inl ⟨e, rfl⟩
  · exact .inr h
theorem tag_none {n : Nat} {a b z : D} {l : Bool} (h : tagEq a z = true) (g : eqi (D.eqv n) b z = some l) : l = true := by
  rcases eqi_cases g with g | g
  · exact g.2
  · unfold tagEq at h
    split at h
    · exfalso
      cases n <;> cases b <;> simp [D.eqv, eqS, Kd.sq] at g
    · cases h
theorem tag_same {x y : D} {v w : V} {F G : List Addr} (h : tagEq x y = true) (hx : Rep X.K cA S H x v F) (hy : Rep X.K cA S H y w G) : ∃ a, v = .ref a ∧ w = .ref a := by
  unfold tagEq at h
  split at h
  · rename_i c ns xs d ms ys
    obtain ⟨rfl, hc⟩ := of_decide_eq_true h
    cases hx with
    | fz n q rs z =>
      cases hy with
      | fz n' q' rs' z' =>
        obtain ⟨o, e, t, _⟩ := q
        obtain ⟨o', e', t', _⟩ := q'
        exact ⟨_, rfl, by rw [t hc, t' hc]⟩
  · cases h
theorem tag_eqAt {A : Around} {x y : D} {v w : V} {u u' : Value} {F G : List Addr} {k : Bool} (h : tagEq x y = true ∧ k = true) (hx : Rep X.K cA S H x v F) (hy : Rep X.K cA S H y w G) (ru : RelV v u) (ru' : RelV w u') : EqAt A s u u' k := by
  obtain ⟨a, rfl, rfl⟩ := tag_same h.1 hx hy
  cases ru; cases ru'
  rw [h.2]
  exact EqAt.same _
theorem Reps.at {ds : List D} {vs : List V} {G : List Addr} (rs : Reps X.K cA S H ds vs G) {j : Nat} {v : V} (h : vs[j]? = some v) : ∃ d F, ds[j]? = some d ∧ Rep X.K cA S H d v F := by
  have hl := Reps.length rs
  have hj : j < vs.length := (List.getElem?_eq_some_iff.mp h).1
  have hd : ds[j]? = some ds[j] := by simp
  obtain ⟨w, F, h1, rp, _⟩ := Reps.get rs hd
  rw [h] at h1; cases h1
  exact ⟨_, _, hd, rp⟩
/-- two data of one value are alike -/
theorem eqv_same (I : Inv X pins σ H s) (sub : Sub S H) : ∀ (n : Nat) (a b : D) (v : V) (F G : List Addr) (k : Bool), Rep X.K cA S H a v F → Rep X.K cA S H b v G → a.eqv n b = some k → k = true := by
  have scal : ∀ (a b : D) (v : V) (F G : List Addr) (k : Bool), Rep X.K cA S H a v F → Rep X.K cA S H b v G → eqS a b = some k → k = true := by
    intro a b v F G k ha hb h
    cases ha <;> cases hb <;> simp_all [eqS]
  intro n
  induction n with
  | zero => exact fun a b v F G k ha hb h => scal a b v F G k ha hb (by simpa [D.eqv] using h)
  | succ n ih =>
    intro a b v F G k ha hb h
    cases a with
    | nd ka oa xs =>
      cases b with
      | nd kb ob ys =>
        simp only [D.eqv] at h
        split at h
        · cases h
        · rename_i hz
          have same : ∀ (vs : List V) (G1 G2 : List Addr), Reps X.K cA S H xs vs G1 → Reps X.K cA S H ys vs G2 → ∀ k, eqs (D.eqv n) xs ys = some k → k = true := fun vs G1 G2 r1 r2 k e => by
            obtain ⟨f, h1, h2⟩ := eqs_all e
            have l1 := Reps.length r1
            have l2 := Reps.length r2
            rw [h2]
            have : (List.range (min xs.length ys.length)).all f = true := by
              rw [List.all_eq_true]
              intro j hj
              have hj' : j < vs.length := by have := List.mem_range.mp hj; omega
              obtain ⟨x, F1, e1, rx⟩ := Reps.at r1 (j := j) (v := vs[j]) (List.getElem?_eq_getElem hj')
              obtain ⟨y, F2, e2, ry⟩ := Reps.at r2 (j := j) (v := vs[j]) (List.getElem?_eq_getElem hj')
              exact (eqi_cases (h1 j x y e1 e2)).elim (fun z => z.2) (ih x y _ _ _ _ rx ry)
            rw [this]
            simp [l1, l2]
          have pa := Rep.seq sub ha
          have pb := Rep.seq sub hb
          rcases Kd.sq_cases ka with z | z | z
          · exact absurd (.inl z) hz
          · rcases Kd.sq_cases kb with y | y | y
            · exact absurd (.inr y) hz
            · obtain ⟨a1, v1, G1, e1, q1, r1⟩ := pa.1 z
              obtain ⟨a2, v2, G2, e2, q2, r2⟩ := pb.1 y
              rw [e1] at e2; cases e2
              obtain rfl := I.tuple_inj q1 q2
              rw [if_pos (z.trans y.symm)] at h
              exact same _ _ _ r1 r2 _ h
            · obtain ⟨a1, v1, G1, e1, q1, r1⟩ := pa.1 z
              obtain ⟨a2, v2, G2, e2, q2, r2⟩ := pb.2 y
              rw [e1] at e2; cases e2
              obtain ⟨_, _, t1, _⟩ := I.tuple q1
              obtain ⟨_, _, t2, _⟩ := I.list q2
              exact absurd rfl (ne_of_list_tuple t2.isList t1)
          · rcases Kd.sq_cases kb with y | y | y
            · exact absurd (.inr y) hz
            · obtain ⟨a1, v1, G1, e1, q1, r1⟩ := pa.2 z
              obtain ⟨a2, v2, G2, e2, q2, r2⟩ := pb.1 y
              rw [e1] at e2; cases e2
              obtain ⟨_, _, t1, _⟩ := I.tuple q2
              obtain ⟨_, _, t2, _⟩ := I.list q1
              exact absurd rfl (ne_of_list_tuple t2.isList t1)
            · obtain ⟨a1, v1, G1, e1, q1, r1⟩ := pa.2 z
              obtain ⟨a2, v2, G2, e2, q2, r2⟩ := pb.2 y
              rw [e1] at e2; cases e2
              obtain rfl := I.list_inj q1 q2
              rw [if_pos (z.trans y.symm)] at h
              exact same _ _ _ r1 r2 _ h
      | _ => exact scal _ _ v F G k ha hb h
    | _ => exact scal _ _ v F G k ha hb h
/-- == at any depth below the room -/
theorem eqv_at : ∀ (n : Nat) (A : Around) (a b : D) (x y : V) (u w : Value) (F G : List Addr) (k : Bool), A.units + n + 1 < cLine → Inv X pins σ H s → Sub S H → Rep X.K cA S H a x F → Rep X.K cA S H b y G → RelV x u → RelV y w → a.eqv n b = some k → EqAt A s u w k ∧ RcAt A s u w k := by
  have scal : ∀ (A : Around) (a b : D) (x y : V) (u w : Value) (F G : List Addr) (k : Bool), A.units < cLine → Inv X pins σ H s → Sub S H → Rep X.K cA S H a x F → Rep X.K cA S H b y G → RelV x u → RelV y w → eqS a b = some k → EqAt A s u w k ∧ RcAt A s u w k := by
    intro A a b x y u w F G k hu I sub ha hb rx ry h
    cases a with
    | non =>
      cases ha; cases rx
      cases b with
      | non => cases hb; cases ry; cases h; exact ⟨EqAt.same _, RcAt.none_none⟩
      | bl j => cases hb; cases ry; cases h; exact ⟨EqAt.none_bool _, RcAt.none_bool _⟩
      | int j => cases hb; obtain ⟨t, rfl⟩ := ry; cases h; exact ⟨EqAt.none_int _ _, RcAt.none_int _ _⟩
      | str j => cases hb; obtain ⟨t, rfl⟩ := ry; cases h; exact ⟨EqAt.none_str _ _, RcAt.none_str _ _⟩
      | nd kb ob ys =>
        have pb := Rep.seq sub hb
        simp only [eqS] at h
        rcases Kd.sq_cases kb with z | z | z
        · rw [if_pos z] at h; cases h
        · rw [if_neg (by omega)] at h; cases h
          obtain ⟨a2, v2, G2, rfl, q2, r2⟩ := pb.1 z
          cases ry
          obtain ⟨_, _, t2, _⟩ := I.tuple q2
          exact ⟨EqAt.none_tuple t2 hu, RcAt.none_tuple t2 hu⟩
        · rw [if_neg (by omega)] at h; cases h
          obtain ⟨a2, v2, G2, rfl, q2, r2⟩ := pb.2 z
          cases ry
          obtain ⟨_, _, t2, _⟩ := I.list q2
          exact ⟨EqAt.none_list t2.isList hu, RcAt.none_list t2.isList hu⟩
    | bl i =>
      cases ha; cases rx
      cases b with
      | non => cases hb; cases ry; cases h; exact ⟨EqAt.bool_none _, RcAt.bool_none _⟩
      | bl j => cases hb; cases ry; cases h; exact ⟨EqAt.bool_bool _ _, RcAt.bool_bool _ _⟩
      | int j => cases hb; obtain ⟨t, rfl⟩ := ry; cases h; exact ⟨EqAt.bool_int _ _ _, RcAt.bool_int _ _ _⟩
      | str j => cases hb; obtain ⟨t, rfl⟩ := ry; cases h; exact ⟨EqAt.bool_str _ _ _, RcAt.bool_str _ _ _⟩
      | nd kb ob ys =>
        have pb := Rep.seq sub hb
        simp only [eqS] at h
        rcases Kd.sq_cases kb with z | z | z
        · rw [if_pos z] at h; cases h
        · rw [if_neg (by omega)] at h; cases h
          obtain ⟨a2, v2, G2, rfl, q2, r2⟩ := pb.1 z
          cases ry
          obtain ⟨_, _, t2, _⟩ := I.tuple q2
          exact ⟨EqAt.bool_tuple _ t2 hu, RcAt.bool_tuple _ t2 hu⟩
        · rw [if_neg (by omega)] at h; cases h
          obtain ⟨a2, v2, G2, rfl, q2, r2⟩ := pb.2 z
          cases ry
          obtain ⟨_, _, t2, _⟩ := I.list q2
          exact ⟨EqAt.bool_list _ t2.isList hu, RcAt.bool_list _ t2.isList hu⟩
    | int i =>
      cases ha; obtain ⟨t0, rfl⟩ := rx
      cases b with
      | non => cases hb; cases ry; cases h; exact ⟨EqAt.int_none _ _, RcAt.int_none _ _⟩
      | bl j => cases hb; cases ry; cases h; exact ⟨EqAt.int_bool _ _ _, RcAt.int_bool _ _ _⟩
      | int j => cases hb; obtain ⟨t, rfl⟩ := ry; cases h; exact ⟨EqAt.int_int _ _ _ _, RcAt.int_int _ _ _ _⟩
      | str j => cases hb; obtain ⟨t, rfl⟩ := ry; cases h; exact ⟨EqAt.int_str _ _ _ _, RcAt.int_str _ _ _ _⟩
      | nd kb ob ys =>
        have pb := Rep.seq sub hb
        simp only [eqS] at h
        rcases Kd.sq_cases kb with z | z | z
        · rw [if_pos z] at h; cases h
        · rw [if_neg (by omega)] at h; cases h
          obtain ⟨a2, v2, G2, rfl, q2, r2⟩ := pb.1 z
          cases ry
          obtain ⟨_, _, t2, _⟩ := I.tuple q2
          exact ⟨EqAt.int_tuple _ _ t2 hu, RcAt.int_tuple _ _ t2 hu⟩
        · rw [if_neg (by omega)] at h; cases h
          obtain ⟨a2, v2, G2, rfl, q2, r2⟩ := pb.2 z
          cases ry
          obtain ⟨_, _, t2, _⟩ := I.list q2
          exact ⟨EqAt.int_list _ _ t2.isList hu, RcAt.int_list _ _ t2.isList hu⟩
    | str i =>
      cases ha; obtain ⟨t0, rfl⟩ := rx
      cases b with
      | non => cases hb; cases ry; cases h; exact ⟨EqAt.str_none _ _, RcAt.str_none _ _⟩
      | bl j => cases hb; cases ry; cases h; exact ⟨EqAt.str_bool _ _ _, RcAt.str_bool _ _ _⟩
      | int j => cases hb; obtain ⟨t, rfl⟩ := ry; cases h; exact ⟨EqAt.str_int _ _ _ _, RcAt.str_int _ _ _ _⟩
      | str j => cases hb; obtain ⟨t, rfl⟩ := ry; cases h; exact ⟨EqAt.str_str _ _ _ _, RcAt.str_str _ _ _ _⟩
      | nd kb ob ys =>
        have pb := Rep.seq sub hb
        simp only [eqS] at h
        rcases Kd.sq_cases kb with z | z | z
        · rw [if_pos z] at h; cases h
        · rw [if_neg (by omega)] at h; cases h
          obtain ⟨a2, v2, G2, rfl, q2, r2⟩ := pb.1 z
          cases ry
          obtain ⟨_, _, t2, _⟩ := I.tuple q2
          exact ⟨EqAt.str_tuple _ _ t2 hu, RcAt.str_tuple _ _ t2 hu⟩
        · rw [if_neg (by omega)] at h; cases h
          obtain ⟨a2, v2, G2, rfl, q2, r2⟩ := pb.2 z
          cases ry
          obtain ⟨_, _, t2, _⟩ := I.list q2
          exact ⟨EqAt.str_list _ _ t2.isList hu, RcAt.str_list _ _ t2.isList hu⟩
    | nd ka oa xs =>
      have pa := Rep.seq sub ha
      rcases Kd.sq_cases ka with z | z | z
      · cases b <;> simp [eqS, z] at h
      · obtain ⟨a2, v2, G2, rfl, q2, r2⟩ := pa.1 z
        cases rx
        obtain ⟨_, _, t2, _⟩ := I.tuple q2
        cases b with
        | non => cases hb; cases ry; simp [eqS, z] at h; subst h; exact ⟨EqAt.tuple_none t2 hu, RcAt.tuple_none t2 hu⟩
        | bl j => cases hb; cases ry; simp [eqS, z] at h; subst h; exact ⟨EqAt.tuple_bool _ t2 hu, RcAt.tuple_bool _ t2 hu⟩
        | int j => cases hb; obtain ⟨t, rfl⟩ := ry; simp [eqS, z] at h; subst h; exact ⟨EqAt.tuple_int _ _ t2 hu, RcAt.tuple_int _ _ t2 hu⟩
        | str j => cases hb; obtain ⟨t, rfl⟩ := ry; simp [eqS, z] at h; subst h; exact ⟨EqAt.tuple_str _ _ t2 hu, RcAt.tuple_str _ _ t2 hu⟩
        | nd kb ob ys => simp [eqS] at h
      · obtain ⟨a2, v2, G2, rfl, q2, r2⟩ := pa.2 z
        cases rx
        obtain ⟨_, _, t2', _⟩ := I.list q2
        have t2 := t2'.isList
        cases b with
        | non => cases hb; cases ry; simp [eqS, z] at h; subst h; exact ⟨EqAt.list_none t2 hu, RcAt.list_none t2 hu⟩
        | bl j => cases hb; cases ry; simp [eqS, z] at h; subst h; exact ⟨EqAt.list_bool _ t2 hu, RcAt.list_bool _ t2 hu⟩
        | int j => cases hb; obtain ⟨t, rfl⟩ := ry; simp [eqS, z] at h; subst h; exact ⟨EqAt.list_int _ _ t2 hu, RcAt.list_int _ _ t2 hu⟩
        | str j => cases hb; obtain ⟨t, rfl⟩ := ry; simp [eqS, z] at h; subst h; exact ⟨EqAt.list_str _ _ t2 hu, RcAt.list_str _ _ t2 hu⟩
        | nd kb ob ys => simp [eqS] at h
  intro n
  induction n with
  | zero => exact fun A a b x y u w F G k hu I sub ha hb rx ry h => scal A a b x y u w F G k (by omega) I sub ha hb rx ry h
  | succ n ih =>
    intro A a b x y u w F G k hu I sub ha hb rx ry h
    have hu0 : A.units < cLine := by omega
    have hu1 : A.in1.units + n + 1 < cLine := by show A.units + 1 + n + 1 < cLine; omega
    cases a with
    | nd ka oa xs =>
      cases b with
      | nd kb ob ys =>
        have hfull := h
        simp only [D.eqv] at h
        split at h
        · cases h
        · rename_i hz
          have pa := Rep.seq sub ha
          have pb := Rep.seq sub hb
          rcases Kd.sq_cases ka with z | z | z
          · exact absurd (.inl z) hz
          · obtain ⟨a1, v1, G1, rfl, q1, r1⟩ := pa.1 z
            cases rx
            obtain ⟨i1, rv1, t1, _⟩ := I.tuple q1
            rcases Kd.sq_cases kb with y | y | y
            · exact absurd (.inr y) hz
            · obtain ⟨a2, v2, G2, rfl, q2, r2⟩ := pb.1 y
              cases ry
              obtain ⟨i2, rv2, t2, _⟩ := I.tuple q2
              rw [if_pos (z.trans y.symm)] at h
              obtain ⟨e, h1, h2⟩ := eqs_all h
              have l1 := Reps.length r1
              have l2 := Reps.length r2
              have m1 := rv1.length
              have m2 := rv2.length
              have rc : RcAt A s (.ref a1) (.ref a2) k := by
                rw [h2]
                have q := RcAt.tuples (e := e) t1 t2 hu0 fun j j1 j2 => by
                  have j1' : j < v1.length := by simp at j1; omega
                  have j2' : j < v2.length := by simp at j2; omega
                  obtain ⟨dx, F1, e1, rx'⟩ := Reps.at r1 (j := j) (v := v1[j]) (List.getElem?_eq_getElem j1')
                  obtain ⟨dy, F2, e2, ry'⟩ := Reps.at r2 (j := j) (v := v2[j]) (List.getElem?_eq_getElem j2')
                  obtain ⟨u1, e3, ru1⟩ := rv1.get (x := v1[j]) (i := j) (by simp)
                  obtain ⟨u2, e4, ru2⟩ := rv2.get (x := v2[j]) (i := j) (by simp)
                  have f1 : i1.toArray[j] = u1 := by
                    have : i1[j]? = some i1[j] := by simp at j1; simp [j1]
                    rw [e3] at this
                    simpa using (Option.some.inj this).symm
                  have f2 : i2.toArray[j] = u2 := by
                    have : i2[j]? = some i2[j] := by simp at j2; simp [j2]
                    rw [e4] at this
                    simpa using (Option.some.inj this).symm
                  rw [f1, f2]
                  exact (eqi_cases (h1 j dx dy e1 e2)).elim (fun z => tag_eqAt z rx' ry' ru1 ru2) fun z => (ih A.in1 dx dy _ _ _ _ _ _ _ hu1 I sub rx' ry' ru1 ru2 z).1
                have s1 : i1.toArray.size = xs.length := by simp; omega
                have s2 : i2.toArray.size = ys.length := by simp; omega
                rw [s1, s2] at q
                exact q
              by_cases hne : a1 = a2
              · subst hne
                rw [eqv_same I sub _ _ _ _ _ _ _ ha hb hfull] at rc ⊢
                exact ⟨EqAt.same _, rc⟩
              · exact ⟨EqAt.of_refs hne rc, rc⟩
            · obtain ⟨a2, v2, G2, rfl, q2, r2⟩ := pb.2 y
              cases ry
              obtain ⟨i2, rv2, t2, _⟩ := I.list q2
              rw [if_neg (by omega)] at h; cases h
              exact ⟨EqAt.tuple_list t1 t2.isList hu0, RcAt.tuple_list t1 t2.isList hu0⟩
          · obtain ⟨a1, v1, G1, rfl, q1, r1⟩ := pa.2 z
            cases rx
            obtain ⟨i1, rv1, t1, _⟩ := I.list q1
            rcases Kd.sq_cases kb with y | y | y
            · exact absurd (.inr y) hz
            · obtain ⟨a2, v2, G2, rfl, q2, r2⟩ := pb.1 y
              cases ry
              obtain ⟨i2, rv2, t2, _⟩ := I.tuple q2
              rw [if_neg (by omega)] at h; cases h
              exact ⟨EqAt.list_tuple t1.isList t2 hu0, RcAt.list_tuple t1.isList t2 hu0⟩
            · obtain ⟨a2, v2, G2, rfl, q2, r2⟩ := pb.2 y
              cases ry
              obtain ⟨i2, rv2, t2, _⟩ := I.list q2
              rw [if_pos (z.trans y.symm)] at h
              obtain ⟨e, h1, h2⟩ := eqs_all h
              have l1 := Reps.length r1
              have l2 := Reps.length r2
              have m1 := rv1.length
              have m2 := rv2.length
              have rc : RcAt A s (.ref a1) (.ref a2) k := by
                by_cases hsz : i1.toArray.size = i2.toArray.size
                · have q := RcAt.lists (e := e) t1.isList t2.isList hsz hu0 fun j j1 j2 => by
                    have j1' : j < v1.length := by simp at j1; omega
                    have j2' : j < v2.length := by simp at j2; omega
                    obtain ⟨dx, F1, e1, rx'⟩ := Reps.at r1 (j := j) (v := v1[j]) (List.getElem?_eq_getElem j1')
                    obtain ⟨dy, F2, e2, ry'⟩ := Reps.at r2 (j := j) (v := v2[j]) (List.getElem?_eq_getElem j2')
                    obtain ⟨u1, e3, ru1⟩ := rv1.get (x := v1[j]) (i := j) (by simp)
                    obtain ⟨u2, e4, ru2⟩ := rv2.get (x := v2[j]) (i := j) (by simp)
                    have f1 : i1.toArray[j] = u1 := by
                      have : i1[j]? = some i1[j] := by simp at j1; simp [j1]
                      rw [e3] at this
                      simpa using (Option.some.inj this).symm
                    have f2 : i2.toArray[j] = u2 := by
                      have : i2[j]? = some i2[j] := by simp at j2; simp [j2]
                      rw [e4] at this
                      simpa using (Option.some.inj this).symm
                    rw [f1, f2]
                    exact (eqi_cases (h1 j dx dy e1 e2)).elim (fun z => tag_eqAt z rx' ry' ru1 ru2) fun z => (ih A.in1 dx dy _ _ _ _ _ _ _ hu1 I sub rx' ry' ru1 ru2 z).1
                  have s1 : i1.toArray.size = xs.length := by simp; omega
                  have s3 : xs.length = ys.length := by simp at hsz; omega
                  rw [s1] at q
                  rw [h2, ← s3, Nat.min_self, beq_self_eq_true, Bool.and_true]
                  exact q
                · have s3 : xs.length ≠ ys.length := by simp at hsz; omega
                  rw [eqs_len h s3]
                  exact RcAt.lists_lengths t1.isList t2.isList (by simpa using hsz) hu0
              by_cases hne : a1 = a2
              · subst hne
                rw [eqv_same I sub _ _ _ _ _ _ _ ha hb hfull] at rc ⊢
                exact ⟨EqAt.same _, rc⟩
              · exact ⟨EqAt.of_refs hne rc, rc⟩
      | _ => exact scal A _ _ x y u w F G k hu0 I sub ha hb rx ry h
    | _ => exact scal A _ _ x y u w F G k hu0 I sub ha hb rx ry h
/-- != likewise -/
theorem eqv_ne : ∀ (n : Nat) (A : Around) (a b : D) (x y : V) (u w : Value) (F G : List Addr) (k : Bool), A.units + n + 1 < cLine → Inv X pins σ H s → Sub S H → Rep X.K cA S H a x F → Rep X.K cA S H b y G → RelV x u → RelV y w → a.eqv n b = some k → RcNeAt A s u w (!k) := by
  have scal : ∀ (A : Around) (a b : D) (x y : V) (u w : Value) (F G : List Addr) (k : Bool), A.units < cLine → Inv X pins σ H s → Sub S H → Rep X.K cA S H a x F → Rep X.K cA S H b y G → RelV x u → RelV y w → eqS a b = some k → RcNeAt A s u w (!k) := by
    intro A a b x y u w F G k hu I sub ha hb rx ry h
    cases a with
    | non =>
      cases ha; cases rx
      cases b with
      | non => cases hb; cases ry; cases h; exact RcNeAt.none_none
      | bl j => cases hb; cases ry; cases h; exact RcNeAt.none_bool _
      | int j => cases hb; obtain ⟨t, rfl⟩ := ry; cases h; exact RcNeAt.none_int _ _
      | str j => cases hb; obtain ⟨t, rfl⟩ := ry; cases h; exact RcNeAt.none_str _ _
      | nd kb ob ys =>
        have pb := Rep.seq sub hb
        simp only [eqS] at h
        rcases Kd.sq_cases kb with z | z | z
        · rw [if_pos z] at h; cases h
        · rw [if_neg (by omega)] at h; cases h
          obtain ⟨a2, v2, G2, rfl, q2, r2⟩ := pb.1 z
          cases ry
          obtain ⟨_, _, t2, _⟩ := I.tuple q2
          exact RcNeAt.none_tuple t2 hu
        · rw [if_neg (by omega)] at h; cases h
          obtain ⟨a2, v2, G2, rfl, q2, r2⟩ := pb.2 z
          cases ry
          obtain ⟨_, _, t2, _⟩ := I.list q2
          exact RcNeAt.none_list t2.isList hu
    | bl i =>
      cases ha; cases rx
      cases b with
      | non => cases hb; cases ry; cases h; exact RcNeAt.bool_none _
      | bl j => cases hb; cases ry; cases h; exact RcNeAt.bool_bool _ _
      | int j => cases hb; obtain ⟨t, rfl⟩ := ry; cases h; exact RcNeAt.bool_int _ _ _
      | str j => cases hb; obtain ⟨t, rfl⟩ := ry; cases h; exact RcNeAt.bool_str _ _ _
      | nd kb ob ys =>
        have pb := Rep.seq sub hb
        simp only [eqS] at h
        rcases Kd.sq_cases kb with z | z | z
        · rw [if_pos z] at h; cases h
        · rw [if_neg (by omega)] at h; cases h
          obtain ⟨a2, v2, G2, rfl, q2, r2⟩ := pb.1 z
          cases ry
          obtain ⟨_, _, t2, _⟩ := I.tuple q2
          exact RcNeAt.bool_tuple _ t2 hu
        · rw [if_neg (by omega)] at h; cases h
          obtain ⟨a2, v2, G2, rfl, q2, r2⟩ := pb.2 z
          cases ry
          obtain ⟨_, _, t2, _⟩ := I.list q2
          exact RcNeAt.bool_list _ t2.isList hu
    | int i =>
      cases ha; obtain ⟨t0, rfl⟩ := rx
      cases b with
      | non => cases hb; cases ry; cases h; exact RcNeAt.int_none _ _
      | bl j => cases hb; cases ry; cases h; exact RcNeAt.int_bool _ _ _
      | int j => cases hb; obtain ⟨t, rfl⟩ := ry; cases h; exact RcNeAt.int_int _ _ _ _
      | str j => cases hb; obtain ⟨t, rfl⟩ := ry; cases h; exact RcNeAt.int_str _ _ _ _
      | nd kb ob ys =>
        have pb := Rep.seq sub hb
        simp only [eqS] at h
        rcases Kd.sq_cases kb with z | z | z
        · rw [if_pos z] at h; cases h
        · rw [if_neg (by omega)] at h; cases h
          obtain ⟨a2, v2, G2, rfl, q2, r2⟩ := pb.1 z
          cases ry
          obtain ⟨_, _, t2, _⟩ := I.tuple q2
          exact RcNeAt.int_tuple _ _ t2 hu
        · rw [if_neg (by omega)] at h; cases h
          obtain ⟨a2, v2, G2, rfl, q2, r2⟩ := pb.2 z
          cases ry
          obtain ⟨_, _, t2, _⟩ := I.list q2
          exact RcNeAt.int_list _ _ t2.isList hu
    | str i =>
      cases ha; obtain ⟨t0, rfl⟩ := rx
      cases b with
      | non => cases hb; cases ry; cases h; exact RcNeAt.str_none _ _
      | bl j => cases hb; cases ry; cases h; exact RcNeAt.str_bool _ _ _
      | int j => cases hb; obtain ⟨t, rfl⟩ := ry; cases h; exact RcNeAt.str_int _ _ _ _
      | str j => cases hb; obtain ⟨t, rfl⟩ := ry; cases h; exact RcNeAt.str_str _ _ _ _
      | nd kb ob ys =>
        have pb := Rep.seq sub hb
        simp only [eqS] at h
        rcases Kd.sq_cases kb with z | z | z
        · rw [if_pos z] at h; cases h
        · rw [if_neg (by omega)] at h; cases h
          obtain ⟨a2, v2, G2, rfl, q2, r2⟩ := pb.1 z
          cases ry
          obtain ⟨_, _, t2, _⟩ := I.tuple q2
          exact RcNeAt.str_tuple _ _ t2 hu
        · rw [if_neg (by omega)] at h; cases h
          obtain ⟨a2, v2, G2, rfl, q2, r2⟩ := pb.2 z
          cases ry
          obtain ⟨_, _, t2, _⟩ := I.list q2
          exact RcNeAt.str_list _ _ t2.isList hu
    | nd ka oa xs =>
      have pa := Rep.seq sub ha
      rcases Kd.sq_cases ka with z | z | z
      · cases b <;> simp [eqS, z] at h
      · obtain ⟨a2, v2, G2, rfl, q2, r2⟩ := pa.1 z
        cases rx
        obtain ⟨_, _, t2, _⟩ := I.tuple q2
        cases b with
        | non => cases hb; cases ry; simp [eqS, z] at h; subst h; exact RcNeAt.tuple_none t2 hu
        | bl j => cases hb; cases ry; simp [eqS, z] at h; subst h; exact RcNeAt.tuple_bool _ t2 hu
        | int j => cases hb; obtain ⟨t, rfl⟩ := ry; simp [eqS, z] at h; subst h; exact RcNeAt.tuple_int _ _ t2 hu
        | str j => cases hb; obtain ⟨t, rfl⟩ := ry; simp [eqS, z] at h; subst h; exact RcNeAt.tuple_str _ _ t2 hu
        | nd kb ob ys => simp [eqS] at h
      · obtain ⟨a2, v2, G2, rfl, q2, r2⟩ := pa.2 z
        cases rx
        obtain ⟨_, _, t2', _⟩ := I.list q2
        have t2 := t2'.isList
        cases b with
        | non => cases hb; cases ry; simp [eqS, z] at h; subst h; exact RcNeAt.list_none t2 hu
        | bl j => cases hb; cases ry; simp [eqS, z] at h; subst h; exact RcNeAt.list_bool _ t2 hu
        | int j => cases hb; obtain ⟨t, rfl⟩ := ry; simp [eqS, z] at h; subst h; exact RcNeAt.list_int _ _ t2 hu
        | str j => cases hb; obtain ⟨t, rfl⟩ := ry; simp [eqS, z] at h; subst h; exact RcNeAt.list_str _ _ t2 hu
        | nd kb ob ys => simp [eqS] at h
  intro n
  cases n with
  | zero => exact fun A a b x y u w F G k hu I sub ha hb rx ry h => scal A a b x y u w F G k (by omega) I sub ha hb rx ry h
  | succ n =>
    intro A a b x y u w F G k hu I sub ha hb rx ry h
    have hu0 : A.units < cLine := by omega
    have hu1 : A.in1.units + n + 1 < cLine := by show A.units + 1 + n + 1 < cLine; omega
    cases a with
    | nd ka oa xs =>
      cases b with
      | nd kb ob ys =>
        have hfull := h
        simp only [D.eqv] at h
        split at h
        · cases h
        · rename_i hz
          have pa := Rep.seq sub ha
          have pb := Rep.seq sub hb
          rcases Kd.sq_cases ka with z | z | z
          · exact absurd (.inl z) hz
          · obtain ⟨a1, v1, G1, rfl, q1, r1⟩ := pa.1 z
            cases rx
            obtain ⟨i1, rv1, t1, _⟩ := I.tuple q1
            rcases Kd.sq_cases kb with y | y | y
            · exact absurd (.inr y) hz
            · obtain ⟨a2, v2, G2, rfl, q2, r2⟩ := pb.1 y
              cases ry
              obtain ⟨i2, rv2, t2, _⟩ := I.tuple q2
              rw [if_pos (z.trans y.symm)] at h
              obtain ⟨e, h1, h2⟩ := eqs_all h
              have l1 := Reps.length r1
              have l2 := Reps.length r2
              have m1 := rv1.length
              have m2 := rv2.length
              have rc : RcNeAt A s (.ref a1) (.ref a2) (!k) := by
                rw [h2]
                have q := RcNeAt.tuples (e := e) t1 t2 hu0 fun j j1 j2 => by
                  have j1' : j < v1.length := by simp at j1; omega
                  have j2' : j < v2.length := by simp at j2; omega
                  obtain ⟨dx, F1, e1, rx'⟩ := Reps.at r1 (j := j) (v := v1[j]) (List.getElem?_eq_getElem j1')
                  obtain ⟨dy, F2, e2, ry'⟩ := Reps.at r2 (j := j) (v := v2[j]) (List.getElem?_eq_getElem j2')
                  obtain ⟨u1, e3, ru1⟩ := rv1.get (x := v1[j]) (i := j) (by simp)
                  obtain ⟨u2, e4, ru2⟩ := rv2.get (x := v2[j]) (i := j) (by simp)
                  have f1 : i1.toArray[j] = u1 := by
                    have : i1[j]? = some i1[j] := by simp at j1; simp [j1]
                    rw [e3] at this
                    simpa using (Option.some.inj this).symm
                  have f2 : i2.toArray[j] = u2 := by
                    have : i2[j]? = some i2[j] := by simp at j2; simp [j2]
                    rw [e4] at this
                    simpa using (Option.some.inj this).symm
                  rw [f1, f2]
                  exact (eqi_cases (h1 j dx dy e1 e2)).elim (fun z => tag_eqAt z rx' ry' ru1 ru2) fun z => (eqv_at n A.in1 dx dy _ _ _ _ _ _ _ hu1 I sub rx' ry' ru1 ru2 z).1
                have s1 : i1.toArray.size = xs.length := by simp; omega
                have s2 : i2.toArray.size = ys.length := by simp; omega
                rw [s1, s2] at q
                exact q
              exact rc
            · obtain ⟨a2, v2, G2, rfl, q2, r2⟩ := pb.2 y
              cases ry
              obtain ⟨i2, rv2, t2, _⟩ := I.list q2
              rw [if_neg (by omega)] at h; cases h
              exact RcNeAt.tuple_list t1 t2.isList hu0
          · obtain ⟨a1, v1, G1, rfl, q1, r1⟩ := pa.2 z
            cases rx
            obtain ⟨i1, rv1, t1, _⟩ := I.list q1
            rcases Kd.sq_cases kb with y | y | y
            · exact absurd (.inr y) hz
            · obtain ⟨a2, v2, G2, rfl, q2, r2⟩ := pb.1 y
              cases ry
              obtain ⟨i2, rv2, t2, _⟩ := I.tuple q2
              rw [if_neg (by omega)] at h; cases h
              exact RcNeAt.list_tuple t1.isList t2 hu0
            · obtain ⟨a2, v2, G2, rfl, q2, r2⟩ := pb.2 y
              cases ry
              obtain ⟨i2, rv2, t2, _⟩ := I.list q2
              rw [if_pos (z.trans y.symm)] at h
              obtain ⟨e, h1, h2⟩ := eqs_all h
              have l1 := Reps.length r1
              have l2 := Reps.length r2
              have m1 := rv1.length
              have m2 := rv2.length
              have rc : RcNeAt A s (.ref a1) (.ref a2) (!k) := by
                by_cases hsz : i1.toArray.size = i2.toArray.size
                · have q := RcNeAt.lists (e := e) t1.isList t2.isList hsz hu0 fun j j1 j2 => by
                    have j1' : j < v1.length := by simp at j1; omega
                    have j2' : j < v2.length := by simp at j2; omega
                    obtain ⟨dx, F1, e1, rx'⟩ := Reps.at r1 (j := j) (v := v1[j]) (List.getElem?_eq_getElem j1')
                    obtain ⟨dy, F2, e2, ry'⟩ := Reps.at r2 (j := j) (v := v2[j]) (List.getElem?_eq_getElem j2')
                    obtain ⟨u1, e3, ru1⟩ := rv1.get (x := v1[j]) (i := j) (by simp)
                    obtain ⟨u2, e4, ru2⟩ := rv2.get (x := v2[j]) (i := j) (by simp)
                    have f1 : i1.toArray[j] = u1 := by
                      have : i1[j]? = some i1[j] := by simp at j1; simp [j1]
                      rw [e3] at this
                      simpa using (Option.some.inj this).symm
                    have f2 : i2.toArray[j] = u2 := by
                      have : i2[j]? = some i2[j] := by simp at j2; simp [j2]
                      rw [e4] at this
                      simpa using (Option.some.inj this).symm
                    rw [f1, f2]
                    exact (eqi_cases (h1 j dx dy e1 e2)).elim (fun z => tag_eqAt z rx' ry' ru1 ru2) fun z => (eqv_at n A.in1 dx dy _ _ _ _ _ _ _ hu1 I sub rx' ry' ru1 ru2 z).1
                  have s1 : i1.toArray.size = xs.length := by simp; omega
                  have s3 : xs.length = ys.length := by simp at hsz; omega
                  rw [s1] at q
                  rw [h2, ← s3, Nat.min_self, beq_self_eq_true, Bool.and_true]
                  exact q
                · have s3 : xs.length ≠ ys.length := by simp at hsz; omega
                  rw [eqs_len h s3]
                  exact RcNeAt.lists_lengths t1.isList t2.isList (by simpa using hsz) hu0
              exact rc
      | _ => exact scal A _ _ x y u w F G k hu0 I sub ha hb rx ry h
    | _ => exact scal A _ _ x y u w F G k hu0 I sub ha hb rx ry h
end
end TK
/-! TK, part 5: in over data. Own work. -/
namespace TK
open PySem L2 PySem.SeqAt
section
variable {X : Cx} {cA : Nat → Addr} {S H : Hp} {pins : List (Addr × Obj)} {σ : L2.St} {s : Shared}
/-- of one value the answers are one -/
theorem eqv_cong (I : Inv X pins σ H s) (sub : Sub S H) : ∀ (n : Nat) (a b x : D) (v : V) (F G : List Addr) (k l : Bool), Rep X.K cA S H a v F → Rep X.K cA S H b v G → a.eqv n x = some k → b.eqv n x = some l → k = l := by
  have sqs : ∀ (ka kb : Kd) (oa ob : Bool) (xs ys : List D) (v : V) (F G : List Addr), Rep X.K cA S H (.nd ka oa xs) v F → Rep X.K cA S H (.nd kb ob ys) v G → ka.sq ≠ 0 → kb.sq ≠ 0 → ka.sq = kb.sq ∧ ∃ vs G1 G2, Reps X.K cA S H xs vs G1 ∧ Reps X.K cA S H ys vs G2 := by
    intro ka kb oa ob xs ys v F G ha hb na nb
    have pa := Rep.seq sub ha
    have pb := Rep.seq sub hb
    rcases Kd.sq_cases ka with z | z | z
    · exact absurd z na
    · rcases Kd.sq_cases kb with y | y | y
      · exact absurd y nb
      · obtain ⟨a1, v1, G1, e1, q1, r1⟩ := pa.1 z
        obtain ⟨a2, v2, G2, e2, q2, r2⟩ := pb.1 y
        rw [e1] at e2; cases e2
        obtain rfl := I.tuple_inj q1 q2
        exact ⟨z.trans y.symm, _, _, _, r1, r2⟩
      · obtain ⟨a1, v1, G1, e1, q1, r1⟩ := pa.1 z
        obtain ⟨a2, v2, G2, e2, q2, r2⟩ := pb.2 y
        rw [e1] at e2; cases e2
        obtain ⟨_, _, t1, _⟩ := I.tuple q1
        obtain ⟨_, _, t2, _⟩ := I.list q2
        exact absurd rfl (ne_of_list_tuple t2.isList t1)
    · rcases Kd.sq_cases kb with y | y | y
      · exact absurd y nb
      · obtain ⟨a1, v1, G1, e1, q1, r1⟩ := pa.2 z
        obtain ⟨a2, v2, G2, e2, q2, r2⟩ := pb.1 y
        rw [e1] at e2; cases e2
        obtain ⟨_, _, t1, _⟩ := I.tuple q2
        obtain ⟨_, _, t2, _⟩ := I.list q1
        exact absurd rfl (ne_of_list_tuple t2.isList t1)
      · obtain ⟨a1, v1, G1, e1, q1, r1⟩ := pa.2 z
        obtain ⟨a2, v2, G2, e2, q2, r2⟩ := pb.2 y
        rw [e1] at e2; cases e2
        obtain rfl := I.list_inj q1 q2
        exact ⟨z.trans y.symm, _, _, _, r1, r2⟩
  have scal : ∀ (a b x : D) (v : V) (F G : List Addr) (k l : Bool), Rep X.K cA S H a v F → Rep X.K cA S H b v G → eqS a x = some k → eqS b x = some l → k = l := by
    intro a b x v F G k l ha hb h g
    cases a with
    | nd ka oa xs =>
      cases b with
      | nd kb ob ys => cases x <;> simp [eqS] at h g <;> (rw [h.2, g.2])
      | _ => cases ha <;> cases hb
    | _ => cases ha <;> cases hb <;> (rw [h] at g; exact Option.some.inj g)
  intro n
  induction n with
  | zero => exact fun a b x v F G k l ha hb h g => scal a b x v F G k l ha hb h g
  | succ n ih =>
    intro a b x v F G k l ha hb h g
    cases x with
    | nd kx ox zs =>
      cases a with
      | nd ka oa xs =>
        cases b with
        | nd kb ob ys =>
          simp only [D.eqv] at h g
          split at h
          · cases h
          · rename_i hz
            split at g
            · cases g
            · rename_i hy
              obtain ⟨e, vs, G1, G2, r1, r2⟩ := sqs _ _ _ _ _ _ _ _ _ ha hb (fun z => hz (.inl z)) (fun z => hy (.inl z))
              rw [e] at h
              split at h
              · rename_i es
                rw [if_pos es] at g
                obtain ⟨f, h1, h2⟩ := eqs_all h
                obtain ⟨f', g1, g2⟩ := eqs_all g
                have l1 := Reps.length r1
                have l2 := Reps.length r2
                rw [h2, g2]
                have : (List.range (min xs.length zs.length)).all f = (List.range (min ys.length zs.length)).all f' := by
                  rw [l1, l2]
                  rw [Bool.eq_iff_iff, List.all_eq_true, List.all_eq_true]
                  have each : ∀ j, j ∈ List.range (min vs.length zs.length) → f j = f' j := fun j hj => by
                    have hj1 := List.mem_range.mp hj
                    have hjv : j < vs.length := by omega
                    have hjz : j < zs.length := by omega
                    obtain ⟨dx, F1, e1, rx⟩ := Reps.at r1 (j := j) (v := vs[j]) (List.getElem?_eq_getElem hjv)
                    obtain ⟨dy, F2, e2, ry⟩ := Reps.at r2 (j := j) (v := vs[j]) (List.getElem?_eq_getElem hjv)
                    have b1 := h1 j _ _ e1 (List.getElem?_eq_getElem hjz)
                    have b2 := g1 j _ _ e2 (List.getElem?_eq_getElem hjz)
                    rcases eqi_cases b1 with c1 | c1
                    · rw [c1.2, tag_none c1.1 b2]
                    · rcases eqi_cases b2 with c2 | c2
                      · rw [c2.2, tag_none c2.1 b1]
                      · exact ih _ _ _ _ _ _ _ _ rx ry c1 c2
                  exact ⟨fun q j hj => by rw [← each j hj]; exact q j hj, fun q j hj => by rw [each j hj]; exact q j hj⟩
                rw [this, l1, l2]
              · rename_i es
                rw [if_neg es] at g
                cases h; cases g; rfl
        | _ => cases ha <;> cases hb
      | _ => exact scal _ _ _ _ _ _ _ _ ha hb h (by cases b <;> first | exact g | (cases ha <;> cases hb))
    | _ => exact scal _ _ _ _ _ _ _ _ ha hb (by cases a <;> exact h) (by cases b <;> exact g)
theorem inSeq_all {n : Nat} {x : D} : ∀ {ys : List D} {k : Bool}, inSeq n x ys = some k → ∃ e : Nat → Bool, (∀ j (y : D), ys[j]? = some y → y.eqv n x = some (e j)) ∧ k = (List.range ys.length).any e
  | [], _, h => by cases h; exact ⟨fun _ => true, fun j y h1 => by simp at h1, by simp⟩
  | y :: ys, k, h => by
    unfold inSeq at h
    split at h
    · rename_i a b ea eb
      cases h
      obtain ⟨e, h1, h2⟩ := inSeq_all eb
      refine ⟨fun j => match j with | 0 => a | j + 1 => e j, fun j y' hy => ?_, ?_⟩
      · cases j with
        | zero => simp at hy; subst hy; exact ea
        | succ j => exact h1 j y' (by simpa using hy)
      · rw [h2]
        simp only [List.length_cons, List.range_succ_eq_map, List.any_cons, List.any_map]
        rfl
    · cases h
/-- the answer of `in` by the items' values -/
theorem in_items {A : Around} {x : D} {y : V} {u : Value} {ds : List D} {vs : List V} {us : List Value} {F G : List Addr} {k : Bool} (hu : A.units + 62 < cLine) (I : Inv X pins σ H s) (sub : Sub S H) (rx : Rep X.K cA S H x y F) (ry : RelV y u)
    (rs : Reps X.K cA S H ds vs G) (rv : Vals vs us) (h : inSeq 60 x ds = some k) : ∃ e : Value → Bool, (∀ w, w ∈ us.toArray → EqAt A.in1 s w u (e w)) ∧ us.toArray.any e = k := by
  classical
  obtain ⟨f, h1, h2⟩ := inSeq_all h
  have l1 := Reps.length rs
  have l2 := rv.length
  let e : Value → Bool := fun w => decide (∃ j, us[j]? = some w ∧ j < ds.length ∧ f j = true)
  have key : ∀ j w, us[j]? = some w → j < ds.length ∧ e w = f j := fun j w hj => by
    have hju : j < us.length := (List.getElem?_eq_some_iff.mp hj).1
    have hjd : j < ds.length := by omega
    refine ⟨hjd, ?_⟩
    cases hf : f j with
    | true => exact decide_eq_true ⟨j, hj, hjd, hf⟩
    | false =>
      refine decide_eq_false ?_
      rintro ⟨i, hi, hid, hfi⟩
      have hjv : j < vs.length := by omega
      have hiv : i < vs.length := by omega
      obtain ⟨u1, e1, r1⟩ := rv.get (i := j) (List.getElem?_eq_getElem hjv)
      obtain ⟨u2, e2, r2⟩ := rv.get (i := i) (List.getElem?_eq_getElem hiv)
      rw [hj] at e1; cases e1
      rw [hi] at e2; cases e2
      have ev := RelV.inj r1 r2
      obtain ⟨d1, F1, g1, q1⟩ := Reps.at rs (j := j) (List.getElem?_eq_getElem hjv)
      obtain ⟨d2, F2, g2, q2⟩ := Reps.at rs (j := i) (List.getElem?_eq_getElem hiv)
      rw [← ev] at q2
      have := eqv_cong I sub _ _ _ _ _ _ _ _ _ q1 q2 (h1 _ _ g1) (h1 _ _ g2)
      rw [hf, hfi] at this
      cases this
  refine ⟨e, fun w hw => ?_, ?_⟩
  · have hw' : w ∈ us := by simpa using hw
    obtain ⟨j, hj, rfl⟩ := List.getElem_of_mem hw'
    obtain ⟨hjd, ee⟩ := key j _ (List.getElem?_eq_getElem hj)
    rw [ee]
    have hjv : j < vs.length := by omega
    obtain ⟨u1, e1, r1⟩ := rv.get (i := j) (List.getElem?_eq_getElem hjv)
    rw [List.getElem?_eq_getElem hj] at e1; cases e1
    obtain ⟨d1, F1, g1, q1⟩ := Reps.at rs (j := j) (List.getElem?_eq_getElem hjv)
    exact (eqv_at 60 A.in1 d1 x _ _ _ _ _ _ _ (by show A.units + 1 + 60 + 1 < cLine; omega) I sub q1 rx r1 ry (h1 _ _ g1)).1
  · rw [h2]
    rw [Bool.eq_iff_iff]
    constructor
    · intro q
      have q' : us.any e = true := by simpa using q
      obtain ⟨w, hw, hew⟩ := List.any_eq_true.mp q'
      obtain ⟨j, hj, rfl⟩ := List.getElem_of_mem hw
      obtain ⟨hjd, ee⟩ := key j _ (List.getElem?_eq_getElem hj)
      exact List.any_eq_true.mpr ⟨j, List.mem_range.mpr hjd, by rw [← ee]; exact hew⟩
    · intro q
      obtain ⟨j, hj, hf⟩ := List.any_eq_true.mp q
      have hju : j < us.length := by have := List.mem_range.mp hj; omega
      obtain ⟨hjd, ee⟩ := key j _ (List.getElem?_eq_getElem hju)
      have : us.any e = true := List.any_eq_true.mpr ⟨us[j], List.getElem_mem hju, by rw [ee]; exact hf⟩
      simpa using this
end
end TK
/-! TK: dicts over data. Own work. -/
namespace TK
open PySem L2
section
variable {K : PySem.W.Frag} {cA : Nat → Addr} {S H : Hp} {F : List Addr}
theorem keyOf_v {d : D} {k : Key} {v : V} (h : keyOf d = some k) (rp : Rep K cA S H d v F) : v = kV k ∧ F = [] := by
  cases d <;> simp only [keyOf] at h <;> cases h <;> cases rp <;> exact ⟨rfl, rfl⟩
theorem keysOf_v : ∀ {ys : List D} {ks : List Key} {vs : List V} {F : List Addr}, keysOf ys = some ks → Reps K cA S H ys vs F → vs = ks.map kV
  | [], ks, vs, F, h, rp => by cases h; cases rp; rfl
  | y :: ys, ks, vs, F, h, rp => by
    unfold keysOf at h
    split at h
    · rename_i k ks' h1 h2
      cases h
      cases rp with
      | cons r rs =>
        rw [(keyOf_v h1 r).1, keysOf_v h2 rs]
        rfl
    · cases h
theorem valV_zip {κ : Type} [DecidableEq κ] : ∀ (ks : List κ) (vs : List V) (k : κ), ks.length = vs.length → valV (ks.zip vs) k = (ks.findIdx? (· = k)).bind (vs[·]?)
  | [], vs, k, _ => rfl
  | q :: ks, [], k, h => by simp at h
  | q :: ks, v :: vs, k, h => by
    rw [List.zip_cons_cons]
    by_cases z : q = k
    · rw [valV_pos z, List.findIdx?_cons]
      simp [z]
    · rw [valV_neg z, valV_zip ks vs k (by simpa using h), List.findIdx?_cons]
      simp only [z, decide_false, Bool.false_eq_true, if_false]
      cases ks.findIdx? (· = k) <;> simp
theorem findIdx_lt {κ : Type} [DecidableEq κ] {ks : List κ} {k : κ} {j : Nat} (h : ks.findIdx? (· = k) = some j) : j < ks.length := (List.findIdx?_eq_some_iff_getElem.mp h).1
/-- what stands in the heap for a dict -/
theorem Rep.dct {kd : Kd} {o : Bool} {xs : List D} {v : V} (sub : Sub S H) (rp : Rep K cA S H (.nd kd o xs) v F) (h : (∃ ks, kd = .dK ks) ∨ ∃ ks, kd = .dT ks) :
    ∃ a vs G, v = .ref a ∧ Reps K cA S H xs vs G ∧ List.Sublist G F ∧ (∀ ks, kd = .dK ks → ks.length = vs.length ∧ H a = some (.dK (ks.zip vs))) ∧ (∀ ks, kd = .dT ks → ks.length = vs.length ∧ H a = some (.dT (ks.zip vs))) ∧
      (∀ j x w, xs[j]? = some x → vs[j]? = some w → x.fz = false → AtP cA S H (.nd kd o xs) v [j] x w) := by
  cases rp with
  | tup => rcases h with ⟨ks, z⟩ | ⟨ks, z⟩ <;> cases z
  | @fz k xs a vs n q rs z =>
    refine ⟨a, vs, [], rfl, rs, List.Sublist.refl _, fun ks e => ?_, fun ks e => ?_, fun j x w e1 _ e3 => ?_⟩
    · subst e; obtain ⟨o, e1, l, rfl⟩ := q; exact ⟨l, sub _ _ e1⟩
    · subst e; obtain ⟨o, e1, l, rfl⟩ := q; exact ⟨l, sub _ _ e1⟩
    · have : ∀ {xs : List D} {j : Nat}, fzs xs = true → xs[j]? = some x → x.fz = true := fun {xs} => by
        induction xs with
        | nil => intro j _ e; simp at e
        | cons y ys ih =>
          intro j h e
          simp only [D.fz.fzs, Bool.and_eq_true] at h
          cases j with
          | zero => simp at e; subst e; exact h.1
          | succ j => exact ih h.2 (by simpa using e)
      rw [this z e1] at e3; cases e3
  | @ow k xs a vs o F n e q rs =>
    refine ⟨a, vs, F, rfl, rs, List.sublist_cons_self _ _, fun ks z => ?_, fun ks z => ?_, fun j x w e1 e2 _ => .ow n e q e1 e2 .nil⟩
    · subst z; obtain ⟨l, rfl⟩ := q; exact ⟨l, e⟩
    · subst z; obtain ⟨l, rfl⟩ := q; exact ⟨l, e⟩
theorem dctIx_dct {kd : Kd} {k : D} {ix : Option Nat} (h : dctIx kd k = some ix) : (∃ ks, kd = .dK ks) ∨ ∃ ks, kd = .dT ks := by
  cases kd <;> first | exact .inl ⟨_, rfl⟩ | exact .inr ⟨_, rfl⟩ | (simp [dctIx] at h)
/-- what a dict holds at a key -/
theorem dct_get {kd : Kd} {o : Bool} {xs : List D} {v y : V} {k : D} {G : List Addr} {ix : Option Nat} (sub : Sub S H) (rp : Rep K cA S H (.nd kd o xs) v F) (rk : Rep K cA S H k y G) (h : dctIx kd k = some ix) :
    ∃ a vs G, v = .ref a ∧ Reps K cA S H xs vs G ∧ List.Sublist G F ∧ DGet H a y (ix.bind (vs[·]?)) ∧ (ix.bind (vs[·]?)).isSome = ix.isSome ∧ (∀ j x w, xs[j]? = some x → vs[j]? = some w → x.fz = false → AtP cA S H (.nd kd o xs) v [j] x w) := by
  obtain ⟨a, vs, G', rfl, rs, sl, h1, h2, at_⟩ := Rep.dct sub rp (dctIx_dct h)
  refine ⟨a, vs, G', rfl, rs, sl, ?_⟩
  cases kd with
  | dK ks =>
    obtain ⟨l, e⟩ := h1 ks rfl
    simp only [dctIx] at h
    split at h
    · rename_i q hq
      cases h
      obtain ⟨rfl, _⟩ := keyOf_v hq rk
      refine ⟨by rw [← valV_zip ks vs q l]; exact .k e, ?_, at_⟩
      cases hf : ks.findIdx? (· = q) with
      | none => rfl
      | some j =>
        have := findIdx_lt hf
        simp [List.getElem?_eq_getElem (show j < vs.length by omega)]
    · cases h
  | dT ks =>
    obtain ⟨l, e⟩ := h2 ks rfl
    simp only [dctIx] at h
    split at h
    · rename_i ys
      split at h
      · rename_i q hq
        cases h
        obtain ⟨b, ws, rfl, eb, e2⟩ : ∃ b ws, y = .ref b ∧ H b = some (.tup ws) ∧ ws = q.map kV := by
          cases rk with
          | @tup _ b ws _ e1 r => exact ⟨b, ws, rfl, sub _ _ e1, keysOf_v hq r⟩
          | fz n _ _ _ => exact absurd rfl n
        subst e2
        refine ⟨by rw [← valV_zip ks vs q l]; exact .t e eb, ?_, at_⟩
        cases hf : ks.findIdx? (· = q) with
        | none => rfl
        | some j =>
          have := findIdx_lt hf
          simp [List.getElem?_eq_getElem (show j < vs.length by omega)]
      · cases h
    · cases h
  | _ => simp [dctIx] at h
/-! ### pairs -/
theorem putK_new {κ : Type} [DecidableEq κ] {kvs : List (κ × V)} {k : κ} {v : V} (h : k ∉ kvs.map Prod.fst) : putK kvs k v = kvs ++ [(k, v)] := by
  unfold putK
  rw [if_neg]
  intro z
  obtain ⟨p, hp, e⟩ := List.any_eq_true.mp z
  exact h (List.mem_map.mpr ⟨p, hp, of_decide_eq_true e⟩)
theorem mergeK_app : ∀ (more kvs : List (Key × V)), ((kvs ++ more).map Prod.fst).Nodup → mergeK kvs more = kvs ++ more
  | [], kvs, _ => by simp [mergeK]
  | p :: r, kvs, h => by
    have h' : ((kvs ++ [p] ++ r).map Prod.fst).Nodup := by simpa using h
    have hn : p.1 ∉ kvs.map Prod.fst := fun z => by
      rw [List.map_append] at h
      exact (List.nodup_append.mp h).2.2 p.1 z p.1 (by simp) rfl
    show mergeK (putK kvs p.1 p.2) r = _
    rw [putK_new hn, mergeK_app r _ h']
    simp
theorem mergeK_nil {kvs : List (Key × V)} (h : (kvs.map Prod.fst).Nodup) : mergeK [] kvs = kvs := by simpa using mergeK_app kvs [] (by simpa using h)
theorem kvsOf_v (sub : Sub S H) : ∀ {xs : List D} {ps : List (Key × D)} {vs : List V} {F : List Addr}, kvsOf xs = some ps → fzs xs = true → Reps K cA S H xs vs F →
    ∃ (as : List Addr) (kvs : List (Key × V)), vs = as.map V.ref ∧ Paired (fun p kv => SqT K H p [kV kv.1, kv.2]) as kvs ∧ kvs.map Prod.fst = ps.map Prod.fst ∧ Reps K cA S H (ps.map Prod.snd) (kvs.map Prod.snd) []
  | [], ps, vs, F, h, _, rp => by cases h; cases rp; exact ⟨[], [], rfl, .nil, rfl, .nil⟩
  | x :: xs, ps, vs, F, h, z, rp => by
    unfold kvsOf at h
    split at h
    · rename_i a b
      split at h
      · rename_i k ps' h1 h2
        cases h
        have z' : b.fz = true ∧ fzs xs = true := by
          simp only [D.fz.fzs, Bool.and_eq_true, D.fz] at z
          exact ⟨z.1.2.2.1, z.2⟩
        cases rp with
        | cons r rs =>
          obtain ⟨as, kvs, rfl, q2, q3, q4⟩ := kvsOf_v sub h2 z'.2 rs
          cases r with
          | @tup _ p ws _ e r =>
            cases r with
            | cons r1 r =>
              cases r with
              | @cons _ w _ _ _ _ r2 r =>
                cases r
                obtain ⟨rfl, _⟩ := keyOf_v h1 r1
                exact ⟨p :: as, (k, w) :: kvs, rfl, .cons (.inl (.inl (sub _ _ e))) q2, by simp [q3], .cons (F := []) (Fs := []) (Rep.fzmono (fun _ _ e => e) r2 z'.1) q4⟩
          | fz n _ _ _ => exact absurd rfl n
      · cases h
    · cases h
end
end TK
/-! TK, part 6: the primitive operations by values. Own work. -/
namespace TK
open PySem L2 PySem.SeqAt
section
variable {X : Cx} {cA : Nat → Addr}
/-- what a primitive operation asks, by data -/
def rP (X : Cx) (cA : Nat → Addr) (p : P) : List V → Hp → VK → Prop := fun xs H Q => ∃ S ds d, Sub S H ∧ All2 (fun d v => ∃ G, Rep X.K cA S H d v G) ds xs ∧ p.ev ds = some d ∧ Pr X.K cA S H d Q
def rP2 (X : Cx) (cA : Nat → Addr) (p : P) : R2 := fun x y H Q => rP X cA p [x, y] H Q
theorem rP2_of {p : P} {x y : V} {H : Hp} {Q : VK} (h : rP2 X cA p x y H Q) : ∃ S a b d F G, Sub S H ∧ Rep X.K cA S H a x F ∧ Rep X.K cA S H b y G ∧ p.ev [a, b] = some d ∧ Pr X.K cA S H d Q := by
  obtain ⟨S, ds, d, sub, al, e, pr⟩ := h
  cases al with
  | cons h1 al =>
    cases al with
    | cons h2 al =>
      cases al
      obtain ⟨F, h1⟩ := h1
      obtain ⟨G, h2⟩ := h2
      exact ⟨S, _, _, d, F, G, sub, h1, h2, e, pr⟩
theorem rP1_of {p : P} {x : V} {H : Hp} {Q : VK} (h : rP X cA p [x] H Q) : ∃ S a d F, Sub S H ∧ Rep X.K cA S H a x F ∧ p.ev [a] = some d ∧ Pr X.K cA S H d Q := by
  obtain ⟨S, ds, d, sub, al, e, pr⟩ := h
  cases al with
  | cons h1 al =>
    cases al
    obtain ⟨F, h1⟩ := h1
    exact ⟨S, _, d, F, sub, h1, e, pr⟩
variable {S H : Hp}
theorem Rep.lst {o : Bool} {xs : List D} {v : V} {F : List Addr} (sub : Sub S H) (rp : Rep X.K cA S H (.nd .lst o xs) v F) : ∃ a vs G, v = .ref a ∧ H a = some (.lst vs) ∧ Reps X.K cA S H xs vs G := by
  cases rp with
  | fz n q rs z =>
    obtain ⟨o, e, rfl⟩ := q
    exact ⟨_, _, _, rfl, sub _ _ e, rs⟩
  | ow n e q rs =>
    cases q
    exact ⟨_, _, _, rfl, e, rs⟩
theorem Rep.tupv {d : D} {xs : List D} {v : V} {F : List Addr} (sub : Sub S H) (h : asTup d = some xs) (rp : Rep X.K cA S H d v F) : ∃ a vs G, v = .ref a ∧ SqT X.K H a vs ∧ Reps X.K cA S H xs vs G := by
  cases d with
  | nd k o ys =>
    cases k with
    | tup => cases h; exact (Rep.seq sub rp).1 rfl
    | kt => cases h; exact (Rep.seq sub rp).1 rfl
    | _ => cases h
  | _ => cases h
/-- a sequence, list or tuple -/
theorem Rep.seqv {d : D} {xs : List D} {v : V} {F : List Addr} (sub : Sub S H) (h : asSeq d = some xs) (rp : Rep X.K cA S H d v F) : ∃ a vs G, v = .ref a ∧ (SqL X.K H a vs ∨ SqT X.K H a vs) ∧ Reps X.K cA S H xs vs G := by
  cases d with
  | nd k o ys =>
    cases k with
    | tup => cases h; obtain ⟨a, vs, G, e, q, r⟩ := (Rep.seq sub rp).1 rfl; exact ⟨a, vs, G, e, .inr q, r⟩
    | kt => cases h; obtain ⟨a, vs, G, e, q, r⟩ := (Rep.seq sub rp).1 rfl; exact ⟨a, vs, G, e, .inr q, r⟩
    | lst => cases h; obtain ⟨a, vs, G, e, q, r⟩ := (Rep.seq sub rp).2 rfl; exact ⟨a, vs, G, e, .inl q, r⟩
    | scr =>
      cases h
      cases rp with
      | fz n q rs z => exact ⟨_, _, _, rfl, .inl (SqL.mono sub q), rs⟩
      | ow n e q rs => exact absurd q (by simp [HoIs])
    | _ => cases h
  | _ => cases h
theorem Reps.still {ds : List D} {vs : List V} {F : List Addr} (h : Reps X.K cA S H ds vs F) (z : fzs ds = true) : Reps X.K cA S H ds vs [] := Reps.fzmono (fun _ _ e => e) h z
theorem Pr.int {i : Int} {Q : VK} (sub : Sub S H) (h : Pr X.K cA S H (.int i) Q) : Q (.int i) H := h.scal sub (.int i)
theorem Pr.bl {b : Bool} {Q : VK} (sub : Sub S H) (h : Pr X.K cA S H (.bl b) Q) : Q (.bl b) H := h.scal sub (.bl b)
theorem Pr.str {x : Str} {Q : VK} (sub : Sub S H) (h : Pr X.K cA S H (.str x) Q) : Q (.str x) H := h.scal sub (.str x)
theorem Pr.self {d : D} {v : V} {F : List Addr} {Q : VK} (sub : Sub S H) (h : Pr X.K cA S H d Q) (rp : Rep X.K cA S H d v F) (z : d.fz = true) : Q v H := h.scal sub (Rep.fzmono (fun _ _ e => e) rp z)
theorem o_add : OpR X (binaryOp .Add) (rP2 X cA .add) := by
  intro pins s σ H x y v u Q I rx ry h
  obtain ⟨S, a, b, d, F, G, sub, ha, hb, e, pr⟩ := rP2_of h
  have hsl : sLine = 16777216 := rfl
  simp only [P.ev] at e
  split at e
  · cases e; cases ha; cases hb
    exact op_add pins s σ H _ _ v u Q I rx ry ⟨_, _, rfl, rfl, pr.int sub⟩
  · split at e
    · rename_i hl
      cases e; cases ha; cases hb
      exact op_add_str pins s σ H _ _ v u Q I rx ry ⟨_, _, rfl, rfl, hl, pr.str sub⟩
    · cases e
  · split at e
    · rename_i hl
      cases e
      simp only [Bool.and_eq_true, decide_eq_true_eq] at hl
      obtain ⟨a1, vs, G1, rfl, h1, r1⟩ := Rep.lst sub ha
      obtain ⟨a2, ws, G2, rfl, h2, r2⟩ := Rep.lst sub hb
      have l1 := Reps.length r1
      have l2 := Reps.length r2
      refine op_cat pins s σ H _ _ v u Q I rx ry ⟨a1, a2, vs, ws, rfl, rfl, h1, h2, by rw [sizeLine_eq]; omega, fun p hp => ?_⟩
      exact pr.ol sub ((r1.still hl.1.1).append (r2.still hl.1.2)) hp
    · cases e
  · split at e
    · rename_i xs ys ex ey
      obtain ⟨a1, vs, G1, rfl, h1, r1⟩ := Rep.tupv sub ex ha
      obtain ⟨a2, ws, G2, rfl, h2, r2⟩ := Rep.tupv sub ey hb
      have l1 := Reps.length r1
      have l2 := Reps.length r2
      split at e
      · rename_i hz
        split at e
        · rename_i hf
          cases e
          have e1 : xs = [] := List.isEmpty_iff.mp hz
          subst e1
          have : vs = [] := List.length_eq_zero_iff.mp l1.symm
          subst this
          obtain ⟨_, _, _, hz2⟩ := I.tuple h2
          exact op_catA pins s σ H _ _ v u Q I rx ry ⟨a1, a2, [], ws, rfl, rfl, h1, h2, by simpa using hz2, fun _ => pr.self sub hb hf, fun z _ => absurd rfl z, fun z _ => absurd rfl z⟩
        · cases e
      · rename_i nx
        have nv : vs ≠ [] := fun z => nx (by subst z; exact List.isEmpty_iff.mpr (List.length_eq_zero_iff.mp l1))
        split at e
        · rename_i hz
          split at e
          · rename_i hf
            cases e
            have e1 : ys = [] := List.isEmpty_iff.mp hz
            subst e1
            have : ws = [] := List.length_eq_zero_iff.mp l2.symm
            subst this
            obtain ⟨_, _, _, hz2⟩ := I.tuple h1
            exact op_catA pins s σ H _ _ v u Q I rx ry ⟨a1, a2, vs, [], rfl, rfl, h1, h2, by simpa using hz2, fun z => absurd z nv, fun _ _ => pr.self sub ha hf, fun _ z => absurd rfl z⟩
          · cases e
        · rename_i ny
          have nw : ws ≠ [] := fun z => ny (by subst z; exact List.isEmpty_iff.mpr (List.length_eq_zero_iff.mp l2))
          split at e
          · rename_i hl
            cases e
            simp only [Bool.and_eq_true, decide_eq_true_eq] at hl
            exact op_catA pins s σ H _ _ v u Q I rx ry ⟨a1, a2, vs, ws, rfl, rfl, h1, h2, by rw [sizeLine_eq]; omega, fun z => absurd z nv, fun _ z => absurd z nw, fun _ _ p hp => pr.tup sub ((r1.still hl.1.1).append (r2.still hl.1.2)) hp⟩
          · cases e
    · cases e
theorem o_sub : OpR X (binaryOp .Sub) (rP2 X cA .sub) := by
  intro pins s σ H x y v u Q I rx ry h
  obtain ⟨S, a, b, d, F, G, sub, ha, hb, e, pr⟩ := rP2_of h
  simp only [P.ev] at e
  split at e
  · cases e; cases ha; cases hb
    exact op_sub pins s σ H _ _ v u Q I rx ry ⟨_, _, rfl, rfl, pr.int sub⟩
  · cases e
theorem Reps.rep {xs : List D} {vs : List V} (rs : Reps X.K cA S H xs vs []) : ∀ n : Nat, Reps X.K cA S H (List.replicate n xs).flatten (List.replicate n vs).flatten []
  | 0 => .nil
  | n + 1 => by
    rw [List.replicate_succ, List.replicate_succ, List.flatten_cons, List.flatten_cons]
    exact Reps.append (F := []) (G := []) rs (Reps.rep rs n)
theorem o_mul : OpR X (binaryOp .Mult) (rP2 X cA .mul) := by
  intro pins s σ H x y v u Q I rx ry h
  obtain ⟨S, a, b, d, F, G, sub, ha, hb, e, pr⟩ := rP2_of h
  simp only [P.ev] at e
  split at e
  · split at e
    · rename_i hc
      cases e; cases ha; cases hb
      exact op_mul pins s σ H _ _ v u Q I rx ry ⟨_, _, rfl, rfl, hc, pr.int sub⟩
    · cases e
  · split at e
    · rename_i hc
      obtain ⟨hf, h1, h2, h3⟩ := hc
      cases e; cases hb
      obtain ⟨p, vs, G', rfl, q, rs⟩ := Rep.lst sub ha
      have rs0 := rs.still hf
      refine op_rep pins s σ H _ _ v u Q I rx ry ⟨p, _, vs, rfl, rfl, q, h1, h2, by rw [← Reps.length rs, sizeLine_eq]; exact h3, fun l hl => pr.ol sub (Reps.rep rs0 _) hl⟩
    · cases e
  · cases e
theorem o_fdiv : OpR X (binaryOp .FloorDiv) (rP2 X cA .fdiv) := by
  intro pins s σ H x y v u Q I rx ry h
  obtain ⟨S, a, b, d, F, G, sub, ha, hb, e, pr⟩ := rP2_of h
  simp only [P.ev] at e
  split at e
  · split at e
    · rename_i hc
      cases e; cases ha; cases hb
      exact op_fdiv pins s σ H _ _ v u Q I rx ry ⟨_, _, rfl, rfl, hc, pr.int sub⟩
    · cases e
  · cases e
theorem o_mod : OpR X (binaryOp .Mod) (rP2 X cA .mod) := by
  intro pins s σ H x y v u Q I rx ry h
  obtain ⟨S, a, b, d, F, G, sub, ha, hb, e, pr⟩ := rP2_of h
  simp only [P.ev] at e
  split at e
  · split at e
    · rename_i hc
      cases e; cases ha; cases hb
      exact op_mod pins s σ H _ _ v u Q I rx ry ⟨_, _, rfl, rfl, hc, pr.int sub⟩
    · cases e
  · cases e
theorem o_pow : OpR X (binaryOp .Pow) (rP2 X cA .pow) := by
  intro pins s σ H x y v u Q I rx ry h
  obtain ⟨S, a, b, d, F, G, sub, ha, hb, e, pr⟩ := rP2_of h
  simp only [P.ev] at e
  split at e
  · split at e
    · rename_i hc
      cases e; cases ha; cases hb
      exact op_pow pins s σ H _ _ v u Q I rx ry ⟨_, _, rfl, rfl, hc, pr.int sub⟩
    · cases e
  · cases e
theorem o_lt : OpR X (compareOp .Lt) (rP2 X cA .lt) := by
  intro pins s σ H x y v u Q I rx ry h
  obtain ⟨S, a, b, d, F, G, sub, ha, hb, e, pr⟩ := rP2_of h
  simp only [P.ev] at e
  split at e
  · cases e; cases ha; cases hb
    exact op_lt pins s σ H _ _ v u Q I rx ry ⟨_, _, rfl, rfl, pr.bl sub⟩
  · cases e; cases ha; cases hb
    exact op_lt_str pins s σ H _ _ v u Q I rx ry ⟨_, _, rfl, rfl, pr.bl sub⟩
  · cases e
theorem o_le : OpR X (compareOp .LtE) (rP2 X cA .le) := by
  intro pins s σ H x y v u Q I rx ry h
  obtain ⟨S, a, b, d, F, G, sub, ha, hb, e, pr⟩ := rP2_of h
  simp only [P.ev] at e
  split at e
  · cases e; cases ha; cases hb
    exact op_le pins s σ H _ _ v u Q I rx ry ⟨_, _, rfl, rfl, pr.bl sub⟩
  · cases e; cases ha; cases hb
    exact op_le_str pins s σ H _ _ v u Q I rx ry ⟨_, _, rfl, rfl, pr.bl sub⟩
  · cases e
theorem o_gt : OpR X (compareOp .Gt) (rP2 X cA .gt) := by
  intro pins s σ H x y v u Q I rx ry h
  obtain ⟨S, a, b, d, F, G, sub, ha, hb, e, pr⟩ := rP2_of h
  simp only [P.ev] at e
  split at e
  · cases e; cases ha; cases hb
    exact op_gt pins s σ H _ _ v u Q I rx ry ⟨_, _, rfl, rfl, pr.bl sub⟩
  · cases e
theorem o_ge : OpR X (compareOp .GtE) (rP2 X cA .ge) := by
  intro pins s σ H x y v u Q I rx ry h
  obtain ⟨S, a, b, d, F, G, sub, ha, hb, e, pr⟩ := rP2_of h
  simp only [P.ev] at e
  split at e
  · cases e; cases ha; cases hb
    exact op_ge pins s σ H _ _ v u Q I rx ry ⟨_, _, rfl, rfl, pr.bl sub⟩
  · cases e
theorem o_eq (hu : X.A.units + 62 < cLine) : OpR X (compareOp .Eq) (rP2 X cA .eq) := by
  intro pins s σ H x y v u Q I rx ry h
  obtain ⟨S, a, b, d, F, G, sub, ha, hb, e, pr⟩ := rP2_of h
  simp only [P.ev, Option.map_eq_some_iff] at e
  obtain ⟨k, ek, rfl⟩ := e
  exact (eqv_at 60 X.A a b x y v u F G k (by omega) I sub ha hb rx ry ek).2 _ _ _ _ ⟨.bl k, H, I, rfl, pr.bl sub⟩
theorem o_ne (hu : X.A.units + 62 < cLine) : OpR X (compareOp .NotEq) (rP2 X cA .ne) := by
  intro pins s σ H x y v u Q I rx ry h
  obtain ⟨S, a, b, d, F, G, sub, ha, hb, e, pr⟩ := rP2_of h
  simp only [P.ev, Option.map_eq_some_iff] at e
  obtain ⟨k, ek, rfl⟩ := e
  exact (eqv_ne 60 X.A a b x y v u F G k (by omega) I sub ha hb rx ry ek) _ _ _ _ ⟨.bl (!k), H, I, rfl, pr.bl sub⟩
theorem inStr_of {c z : Str} {k : Bool} (h : inStr c z = some k) : ∃ n : Nat, c = ⟨#[n]⟩ ∧ k = decide (n ∈ z.cps.toList) := by
  unfold inStr at h
  split at h
  · rename_i n e
    cases h
    refine ⟨n, ?_, rfl⟩
    cases c with
    | mk a =>
      congr 1
      apply Array.ext'
      simpa using e
  · cases h
theorem o_in (hu : X.A.units + 62 < cLine) : OpR X (compareOp .In) (rP2 X cA .inn) := by
  intro pins s σ H x y v u Q I rx ry h
  obtain ⟨S, a, b, d, F, G, sub, ha, hb, e, pr⟩ := rP2_of h
  simp only [P.ev] at e
  split at e
  · split at e
    · simp only [Option.map_eq_some_iff] at e
      obtain ⟨k, ek, rfl⟩ := e
      obtain ⟨n, rfl, rfl⟩ := inStr_of ek
      cases ha; cases hb
      exact op_in_sign pins s σ H _ _ v u Q I rx ry ⟨n, _, rfl, rfl, pr.bl sub⟩
    · cases e
  · rename_i kd o ys
    split at e
    · simp only [Option.map_eq_some_iff] at e
      obtain ⟨ix, ek, rfl⟩ := e
      obtain ⟨p, vs, G', rfl, rs, _, g, gs, _⟩ := dct_get sub hb ha ek
      cases ry
      exact d_in (by omega) I g rx fun s' I' => ⟨.bl (ix.bind (vs[·]?)).isSome, H, I', rfl, by rw [gs]; exact pr.bl sub⟩
    · rename_i hk
      simp only [Option.map_eq_some_iff] at e
      obtain ⟨k, ek, rfl⟩ := e
      rcases Kd.sq_cases kd with z | z | z
      · exact absurd z hk
      · obtain ⟨p, vs, G', rfl, q, rs⟩ := (Rep.seq sub hb).1 z
        obtain ⟨its, rv, t, _⟩ := I.tuple q
        cases ry
        obtain ⟨f, h1, h2⟩ := in_items hu I sub ha rx rs rv ek
        exact in_tupleAt f t h1 (by rw [h2]; exact ⟨.bl k, H, I, rfl, pr.bl sub⟩)
      · obtain ⟨p, vs, G', rfl, q, rs⟩ := (Rep.seq sub hb).2 z
        obtain ⟨its, rv, t, _⟩ := I.list q
        cases ry
        obtain ⟨f, h1, h2⟩ := in_items hu I sub ha rx rs rv ek
        exact in_listAt f t.isList h1 (by rw [h2]; exact ⟨.bl k, H, I, rfl, pr.bl sub⟩)
  · cases e
theorem o_notin (hu : X.A.units + 62 < cLine) : OpR X (compareOp .NotIn) (rP2 X cA .notin) := by
  intro pins s σ H x y v u Q I rx ry h
  obtain ⟨S, a, b, d, F, G, sub, ha, hb, e, pr⟩ := rP2_of h
  simp only [P.ev] at e
  split at e
  · split at e
    · simp only [Option.map_eq_some_iff] at e
      obtain ⟨k, ek, rfl⟩ := e
      obtain ⟨n, rfl, rfl⟩ := inStr_of ek
      cases ha; cases hb
      exact op_notIn_sign pins s σ H _ _ v u Q I rx ry ⟨n, _, rfl, rfl, pr.bl sub⟩
    · cases e
  · rename_i kd o ys
    split at e
    · simp only [Option.map_eq_some_iff] at e
      obtain ⟨ix, ek, rfl⟩ := e
      obtain ⟨p, vs, G', rfl, rs, _, g, gs, _⟩ := dct_get sub hb ha ek
      cases ry
      exact d_notIn (by omega) I g rx fun s' I' => ⟨.bl (!(ix.bind (vs[·]?)).isSome), H, I', rfl, by rw [gs]; exact pr.bl sub⟩
    · rename_i hk
      simp only [Option.map_eq_some_iff] at e
      obtain ⟨k, ek, rfl⟩ := e
      rcases Kd.sq_cases kd with z | z | z
      · exact absurd z hk
      · obtain ⟨p, vs, G', rfl, q, rs⟩ := (Rep.seq sub hb).1 z
        obtain ⟨its, rv, t, _⟩ := I.tuple q
        cases ry
        obtain ⟨f, h1, h2⟩ := in_items hu I sub ha rx rs rv ek
        exact notIn_tupleAt f t h1 (by rw [h2]; exact ⟨.bl (!k), H, I, rfl, pr.bl sub⟩)
      · obtain ⟨p, vs, G', rfl, q, rs⟩ := (Rep.seq sub hb).2 z
        obtain ⟨its, rv, t, _⟩ := I.list q
        cases ry
        obtain ⟨f, h1, h2⟩ := in_items hu I sub ha rx rs rv ek
        exact notIn_listAt f t.isList h1 (by rw [h2]; exact ⟨.bl (!k), H, I, rfl, pr.bl sub⟩)
  · cases e
theorem o_isn : OpR X (compareOp .Is) (fun x y H Q => y = .non ∧ rP X cA .isn [x] H Q) := by
  intro pins s σ H x y v u Q I rx ry ⟨ey, h⟩
  obtain ⟨S, a, d, F, sub, ha, e, pr⟩ := rP1_of h
  refine op_isN pins s σ H x y v u Q I rx ry ⟨ey, ?_⟩
  simp only [P.ev, Option.some.injEq] at e
  subst e
  have q := pr.bl sub
  cases ha <;> simpa using q
theorem o_notn : OpR X (compareOp .IsNot) (fun x y H Q => y = .non ∧ rP X cA .notn [x] H Q) := by
  intro pins s σ H x y v u Q I rx ry ⟨ey, h⟩
  obtain ⟨S, a, d, F, sub, ha, e, pr⟩ := rP1_of h
  refine op_notN pins s σ H x y v u Q I rx ry ⟨ey, ?_⟩
  simp only [P.ev, Option.some.injEq] at e
  subst e
  have q := pr.bl sub
  cases ha <;> simpa using q
theorem o_neg : UnR X (unaryOp .USub) (fun x H Q => rP X cA .neg [x] H Q) := by
  intro pins s σ H x v Q I rx h
  obtain ⟨S, a, d, F, sub, ha, e, pr⟩ := rP1_of h
  simp only [P.ev] at e
  split at e
  · cases e; cases ha
    exact un_neg pins s σ H _ v Q I rx ⟨_, rfl, pr.int sub⟩
  · cases e
/-! ### built-ins -/
theorem c_len : CallR X (.builtin "len") (rP X cA .len) := by
  intro pins s σ H xs us Q I r h
  have hsl : sLine = 16777216 := rfl
  obtain ⟨S, ds, d, sub, al, e, pr⟩ := h
  cases al with
  | nil => cases e
  | cons h1 al =>
    cases al with
    | cons _ _ => cases e
    | nil =>
      obtain ⟨F, h1⟩ := h1
      rename_i a v
      simp only [P.ev] at e
      split at e
      · split at e
        · rename_i hl
          cases e; cases h1
          exact call_len pins s σ H _ us Q I r ⟨_, _, rfl, ⟨by rw [sizeLine_eq]; omega, rfl⟩, pr.int sub⟩
        · cases e
      · simp only [Option.map_eq_some_iff] at e
        obtain ⟨ys, ey, rfl⟩ := e
        obtain ⟨p, vs, G, rfl, q, rs⟩ := Rep.seqv sub ey h1
        have hl := Reps.length rs
        rcases q with q | q
        · exact call_len pins s σ H _ us Q I r ⟨_, ys.length, rfl, .inl ⟨vs, q, hl⟩, pr.int sub⟩
        · exact call_len pins s σ H _ us Q I r ⟨_, ys.length, rfl, .inr ⟨vs, q, hl⟩, pr.int sub⟩
theorem c_list : CallR X (.type "list") (rP X cA .list_) := by
  intro pins s σ H xs us Q I r h
  obtain ⟨S, ds, d, sub, al, e, pr⟩ := h
  cases al with
  | nil => cases e
  | cons h1 al =>
    cases al with
    | cons _ _ => cases e
    | nil =>
      obtain ⟨F, h1⟩ := h1
      simp only [P.ev] at e
      split at e
      · rename_i ys ey
        split at e
        · rename_i hf
          cases e
          obtain ⟨p, vs, G, rfl, q, rs⟩ := Rep.seqv sub ey h1
          exact call_list_of pins s σ H _ us Q I r ⟨p, vs, rfl, q, fun l hl => pr.ol sub (rs.still hf) hl⟩
        · cases e
      · cases e
theorem c_tuple : CallR X (.type "tuple") (rP X cA .tuple_) := by
  intro pins s σ H xs us Q I r h
  obtain ⟨S, ds, d, sub, al, e, pr⟩ := h
  cases al with
  | nil => cases e
  | cons h1 al =>
    cases al with
    | cons _ _ => cases e
    | nil =>
      obtain ⟨F, h1⟩ := h1
      simp only [P.ev] at e
      split at e
      · split at e
        · rename_i hf
          cases e
          obtain ⟨p, vs, G, rfl, q, rs⟩ := Rep.lst sub h1
          exact call_tuple_of pins s σ H _ us Q I r ⟨p, vs, rfl, .inl ⟨SqL.of q, fun l hl => pr.tup sub (rs.still hf) hl⟩⟩
        · cases e
      · split at e
        · rename_i ys ey
          split at e
          · rename_i hf
            cases e
            obtain ⟨p, vs, G, rfl, q, rs⟩ := Rep.tupv sub ey h1
            exact call_tuple_of pins s σ H _ us Q I r ⟨p, vs, rfl, .inr ⟨q, pr.self sub h1 hf⟩⟩
          · cases e
        · cases e
/-! ### sorted -/
theorem lt_le : ∀ (a b : List Nat), PySem.Spec.ltCps a b = decide (a < b)
  | [], [] => by simp [PySem.Spec.ltCps]
  | [], _ :: _ => by simp [PySem.Spec.ltCps]
  | _ :: _, [] => by simp [PySem.Spec.ltCps]
  | a :: r, b :: t => by
    rw [PySem.Spec.ltCps, lt_le r t]
    simp only [List.cons_lt_cons_iff]
    by_cases h : a < b
    · simp [h]
    · by_cases h2 : a = b
      · simp [h2]
      · simp [h, h2]
def leS (a b : Str) : Prop := ¬ (b.cps.toList < a.cps.toList)
theorem leS_trans {a b c : Str} (h1 : leS a b) (h2 : leS b c) : leS a c := by
  unfold leS at *
  rw [List.not_lt] at *
  exact List.le_trans h1 h2
theorem leS_anti {a b : Str} (h1 : leS a b) (h2 : leS b a) : a = b := by
  unfold leS at *
  rw [List.not_lt] at *
  have := List.le_antisymm h1 h2
  cases a; cases b
  simpa [Array.toList_inj] using this
theorem risingS_pair : ∀ {p : Str} {l : List Str}, PyProof.Rows.risingS p l = true → (p :: l).Pairwise leS
  | p, [], _ => by simp
  | p, x :: r, h => by
    have h' : (!PySem.Spec.ltCps x.cps.toList p.cps.toList && PyProof.Rows.risingS x r) = true := h
    rw [Bool.and_eq_true, lt_le] at h'
    have ih := risingS_pair h'.2
    have h1 : leS p x := by
      unfold leS
      simpa using h'.1
    refine List.pairwise_cons.mpr ⟨fun y hy => ?_, ih⟩
    rcases List.mem_cons.mp hy with rfl | hy
    · exact h1
    · exact leS_trans h1 ((List.pairwise_cons.mp ih).1 y hy)
theorem sortedS_pair : ∀ {l : List Str}, PyProof.Rows.sortedS l = true → l.Pairwise leS
  | [], _ => List.Pairwise.nil
  | p :: l, h => risingS_pair h
theorem insS_perm (x : Str) : ∀ l : List Str, (insS x l).Perm (x :: l)
  | [] => .refl _
  | y :: r => by
    unfold insS
    split
    · exact ((insS_perm x r).cons y).trans (.swap x y r)
    · exact .refl _
theorem sortS_perm : ∀ l : List Str, (sortS l).Perm l
  | [] => .refl _
  | x :: r => (insS_perm x (sortS r)).trans ((sortS_perm r).cons x)
theorem insS_pair (x : Str) : ∀ {l : List Str}, l.Pairwise leS → (insS x l).Pairwise leS
  | [], _ => by simp [insS]
  | y :: r, h => by
    have hc := List.pairwise_cons.mp h
    unfold insS
    rw [lt_le]
    split
    · rename_i z
      have z : y.cps.toList < x.cps.toList := by simpa using z
      refine List.pairwise_cons.mpr ⟨fun w hw => ?_, insS_pair x hc.2⟩
      rcases List.mem_cons.mp ((insS_perm x r).mem_iff.mp hw) with rfl | hw
      · unfold leS; rw [List.not_lt]; exact List.le_of_lt z
      · exact hc.1 w hw
    · rename_i z
      have z : leS x y := by unfold leS; simpa using z
      refine List.pairwise_cons.mpr ⟨fun w hw => ?_, h⟩
      rcases List.mem_cons.mp hw with rfl | hw
      · exact z
      · exact leS_trans z (hc.1 w hw)
theorem sortS_pair : ∀ l : List Str, (sortS l).Pairwise leS
  | [] => List.Pairwise.nil
  | x :: r => insS_pair x (sortS_pair r)
theorem sortS_eq {l ys : List Str} (h1 : ys.Perm l) (h2 : PyProof.Rows.sortedS ys = true) : ys = sortS l :=
  List.Perm.eq_of_pairwise (fun a b _ _ => leS_anti) (sortedS_pair h2) (sortS_pair l) (h1.trans (sortS_perm l).symm)
theorem insI_perm (x : Int) : ∀ l : List Int, (insI x l).Perm (x :: l)
  | [] => .refl _
  | y :: r => by
    unfold insI
    split
    · exact ((insI_perm x r).cons y).trans (.swap x y r)
    · exact .refl _
theorem sortI_perm : ∀ l : List Int, (sortI l).Perm l
  | [] => .refl _
  | x :: r => (insI_perm x (sortI r)).trans ((sortI_perm r).cons x)
theorem insI_pair (x : Int) : ∀ {l : List Int}, l.Pairwise (· ≤ ·) → (insI x l).Pairwise (· ≤ ·)
  | [], _ => by simp [insI]
  | y :: r, h => by
    have hc := List.pairwise_cons.mp h
    unfold insI
    split
    · rename_i z
      refine List.pairwise_cons.mpr ⟨fun w hw => ?_, insI_pair x hc.2⟩
      rcases List.mem_cons.mp ((insI_perm x r).mem_iff.mp hw) with rfl | hw
      · omega
      · exact hc.1 w hw
    · rename_i z
      refine List.pairwise_cons.mpr ⟨fun w hw => ?_, h⟩
      rcases List.mem_cons.mp hw with rfl | hw
      · omega
      · have := hc.1 w hw; omega
theorem sortI_pair : ∀ l : List Int, (sortI l).Pairwise (· ≤ ·)
  | [] => List.Pairwise.nil
  | x :: r => insI_pair x (sortI_pair r)
theorem sortI_eq {l ys : List Int} (h1 : ys.Perm l) (h2 : ys.Pairwise (· ≤ ·)) : ys = sortI l :=
  List.Perm.eq_of_pairwise (fun a b _ _ h1 h2 => Int.le_antisymm h1 h2) h2 (sortI_pair l) (h1.trans (sortI_perm l).symm)
theorem strsOf_eq : ∀ {xs : List D} {ys : List Str}, strsOf xs = some ys → xs = ys.map D.str
  | [], ys, h => by cases h; rfl
  | x :: xs, ys, h => by
    cases x <;> simp only [strsOf] at h <;> try cases h
    obtain ⟨r, h1, rfl⟩ := Option.map_eq_some_iff.mp h
    rw [strsOf_eq h1]; rfl
theorem intsOf_eq : ∀ {xs : List D} {ys : List Int}, intsOf xs = some ys → xs = ys.map D.int
  | [], ys, h => by cases h; rfl
  | x :: xs, ys, h => by
    cases x <;> simp only [intsOf] at h <;> try cases h
    obtain ⟨r, h1, rfl⟩ := Option.map_eq_some_iff.mp h
    rw [intsOf_eq h1]; rfl
theorem reps_str_v : ∀ {ys : List Str} {vs : List V} {F : List Addr}, Reps X.K cA S H (ys.map D.str) vs F → vs = ys.map V.str ∧ F = []
  | [], _, _, h => by cases h; exact ⟨rfl, rfl⟩
  | y :: ys, _, _, h => by
    cases h with
    | cons r rs =>
      cases r
      obtain ⟨rfl, rfl⟩ := reps_str_v rs
      exact ⟨rfl, rfl⟩
theorem reps_int_v : ∀ {ys : List Int} {vs : List V} {F : List Addr}, Reps X.K cA S H (ys.map D.int) vs F → vs = ys.map V.int ∧ F = []
  | [], _, _, h => by cases h; exact ⟨rfl, rfl⟩
  | y :: ys, _, _, h => by
    cases h with
    | cons r rs =>
      cases r
      obtain ⟨rfl, rfl⟩ := reps_int_v rs
      exact ⟨rfl, rfl⟩
theorem reps_of_strs : ∀ (ys : List Str), Reps X.K cA S H (ys.map D.str) (ys.map V.str) []
  | [] => .nil
  | y :: ys => .cons (F := []) (Fs := []) (.str y) (reps_of_strs ys)
theorem reps_of_ints : ∀ (ys : List Int), Reps X.K cA S H (ys.map D.int) (ys.map V.int) []
  | [] => .nil
  | y :: ys => .cons (F := []) (Fs := []) (.int y) (reps_of_ints ys)
theorem pre_reps : ∀ {xs : List D} {vs : List V} {F : List Addr}, Reps X.K cA S H xs vs F → VPre vs (intPre xs)
  | [], vs, _, _ => by cases vs <;> trivial
  | x :: xs, _, _, h => by
    cases h with
    | cons r rs =>
      cases r with
      | int i => exact ⟨rfl, pre_reps rs⟩
      | _ => trivial
theorem reps_zip : ∀ {xs : List D} {vs : List V} {F : List Addr}, Reps X.K cA S H xs vs F → fzs xs = true → ∀ p ∈ xs.zip vs, Rep X.K cA S H p.1 p.2 []
  | [], _, _, _, _, p, hp => by simp at hp
  | x :: xs, _, _, h, z, p, hp => by
    simp only [D.fz.fzs, Bool.and_eq_true] at z
    cases h with
    | cons r rs =>
      rw [List.zip_cons_cons] at hp
      rcases List.mem_cons.mp hp with rfl | hp
      · exact Rep.fzmono (fun _ _ e => e) r z.1
      · exact reps_zip rs z.2 p hp
theorem reps_list : ∀ (L : List (List Int × D × V)), (∀ t ∈ L, Rep X.K cA S H t.2.1 t.2.2 []) → Reps X.K cA S H (L.map fun t => t.2.1) (L.map fun t => t.2.2) []
  | [], _ => .nil
  | t :: L, h => .cons (F := []) (Fs := []) (h t List.mem_cons_self) (reps_list L fun u hu => h u (List.mem_cons_of_mem _ hu))
theorem zip_maps (xs : List D) (vs : List V) (hl : xs.length = vs.length) : ((xs.map keyD).zip (xs.zip vs)).map (fun p => (p.1, p.2.1)) = (xs.map keyD).zip xs ∧ ((xs.map keyD).zip (xs.zip vs)).map (fun p => (p.1, p.2.2)) = (xs.map keyD).zip vs := by
  induction xs generalizing vs with
  | nil => simp
  | cons x xs ih =>
    cases vs with
    | nil => simp at hl
    | cons v vs =>
      obtain ⟨h1, h2⟩ := ih vs (by simpa using hl)
      simp only [List.map_cons, List.zip_cons_cons]
      exact ⟨by rw [h1], by rw [h2]⟩
theorem sorted_keysD {xs : List D} {vs : List V} {G : List Addr} {p : Addr} {Q : VK} (sub : Sub S H) (q : H p = some (.lst vs)) (rs : Reps X.K cA S H xs vs G) (hk : keysOk xs = true)
    (pr : Pr X.K cA S H (.ol ((sortK ((xs.map keyD).zip xs)).map Prod.snd)) Q) : rSortK X.K [.ref p] H Q := by
  unfold keysOk at hk
  simp only [Bool.and_eq_true, decide_eq_true_eq, List.all_eq_true] at hk
  obtain ⟨⟨⟨⟨k1, k2⟩, k3⟩, k4⟩, k5⟩ := hk
  have hl : xs.length = vs.length := Reps.length rs
  obtain ⟨z1, z2⟩ := zip_maps xs vs hl
  have rz := reps_zip rs k1
  refine ⟨p, vs, xs.map keyD, klen xs, rfl, .inl (.of q), by omega, k3, by rw [List.length_map, hl], fun t ht => ?_, k5, fun a hn => ?_⟩
  · rw [← z2] at ht
    obtain ⟨u, hu, rfl⟩ := List.mem_map.mp ht
    have hu1 : u.1 ∈ xs.map keyD := (List.of_mem_zip hu).1
    obtain ⟨x, hx, ex⟩ := List.mem_map.mp hu1
    have hu2 := rz _ (List.of_mem_zip hu).2
    have hkey : u.1 = keyD u.2.1 := by
      have : ∀ (l : List D) (m : List V) (u : List Int × D × V), u ∈ (l.map keyD).zip (l.zip m) → u.1 = keyD u.2.1 := fun l => by
        induction l with
        | nil => intro m u h; simp at h
        | cons y l ih =>
          intro m u h
          cases m with
          | nil => simp at h
          | cons w m =>
            simp only [List.map_cons, List.zip_cons_cons] at h
            rcases List.mem_cons.mp h with rfl | h
            · rfl
            · exact ih m u h
      exact this xs vs u hu
    have hlen := k4 x hx
    rw [ex] at hlen
    refine ⟨?_, hlen⟩
    obtain ⟨k, y, v⟩ := u
    simp only at hkey hlen hu2 ⊢
    rw [hkey] at hlen ⊢
    cases hu2 with
    | @tup items a ws F e r => exact ⟨a, ws, rfl, .inl (.inl (sub _ _ e)), pre_reps r⟩
    | @fz k items a ws n e r z =>
      cases k with
      | tup => exact absurd rfl n
      | _ => simp [keyD] at hlen; omega
    | _ => simp [keyD] at hlen; omega
  · have e1 : (sortK ((xs.map keyD).zip xs)).map Prod.snd = (sortK ((xs.map keyD).zip (xs.zip vs))).map fun t => t.2.1 := by
      rw [← z1, ← sortK_map (fun t : D × V => t.1), List.map_map]; rfl
    have e2 : (sortK ((xs.map keyD).zip vs)).map Prod.snd = (sortK ((xs.map keyD).zip (xs.zip vs))).map fun t => t.2.2 := by
      rw [← z2, ← sortK_map (fun t : D × V => t.2), List.map_map]; rfl
    rw [e2]
    rw [e1] at pr
    exact pr.ol sub (reps_list _ fun t ht => rz _ (List.of_mem_zip ((sortK_perm _).mem_iff.mp ht)).2) hn
theorem c_sorted : CallR X (.builtin "sorted") (rP X cA .sorted) := by
  intro pins s σ H xs us Q I r h
  obtain ⟨S, ds, d, sub, al, e, pr⟩ := h
  cases al with
  | nil => cases e
  | cons h1 al =>
    cases al with
    | cons _ _ => cases e
    | nil =>
      obtain ⟨F, h1⟩ := h1
      simp only [P.ev] at e
      split at e
      · split at e
        · rename_i ys hy
          split at e
          · rename_i hl
            cases e
            obtain ⟨p, vs, G, rfl, q, rs⟩ := Rep.lst sub h1
            rw [strsOf_eq hy] at rs
            obtain ⟨rfl, _⟩ := reps_str_v rs
            refine cr_sortedS pins s σ H _ us Q I r ⟨p, ys, rfl, .inl (.of q), hl, fun zs l hp hs hn => ?_⟩
            rw [sortS_eq hp hs]
            exact pr.ol sub (reps_of_strs _) hn
          · cases e
        · split at e
          · rename_i ys hy
            split at e
            · rename_i hl
              cases e
              obtain ⟨p, vs, G, rfl, q, rs⟩ := Rep.lst sub h1
              rw [intsOf_eq hy] at rs
              obtain ⟨rfl, _⟩ := reps_int_v rs
              refine cr_sorted pins s σ H _ us Q I r ⟨p, ys, rfl, .inl (.of q), hl, fun zs l hp hs hn => ?_⟩
              rw [sortI_eq hp hs]
              exact pr.ol sub (reps_of_ints _) hn
            · cases e
          · split at e
            · rename_i hk
              cases e
              obtain ⟨p, vs, G, rfl, q, rs⟩ := Rep.lst sub h1
              exact cr_sortK pins s σ H _ us Q I r (sorted_keysD sub q rs hk pr)
            · cases e
      · cases e
/-- a new dict -/
theorem Pr.dK {ks : List Key} {xs : List D} {vs : List V} {Q : VK} (sub : Sub S H) (h : Pr X.K cA S H (.nd (.dK ks) true xs) Q) (rp : Reps X.K cA S H xs vs []) (l : ks.length = vs.length) {a : Addr} (hn : H a = none) : Q (.ref a) (upd H a (.dK (ks.zip vs))) := by
  have same : Same H (upd H a (.dK (ks.zip vs))) := fun b o e => by rw [upd_ne (ne_of_none e hn)]; exact e
  have sn : S a = none := by
    cases e : S a with
    | none => rfl
    | some o => rw [sub a o e] at hn; cases hn
  refine h _ S (upd H a (.dK (ks.zip vs))) [a] (fun _ _ e => e) same (fun _ _ e => .inl e) (fun b o e => same b o (sub b o e)) (Rep.ow (F := []) nofun upd_same ⟨l, rfl⟩ (Reps.mono (fun _ _ e => e) xs rp fun b hb => absurd hb (by simp))) (by simp) fun b hb => ?_
  have : b = a := by simpa using hb
  subst this
  exact ⟨hn, sn⟩
theorem c_dict (hc : X.calm = true) : CallR X (.type "dict") (rP X cA .dict_) := by
  intro pins s σ H xs us Q I r h
  obtain ⟨S, ds, d, sub, al, e, pr⟩ := h
  cases al with
  | nil => cases e
  | cons h1 al =>
    cases al with
    | cons _ _ => cases e
    | nil =>
      obtain ⟨F, h1⟩ := h1
      simp only [P.ev] at e
      split at e
      · split at e
        · rename_i ps hp
          split at e
          · rename_i hz
            cases e
            simp only [Bool.and_eq_true, decide_eq_true_eq] at hz
            obtain ⟨p, vs, G, rfl, q, rs⟩ := Rep.lst sub h1
            obtain ⟨as, kvs, rfl, k1, k2, k3⟩ := kvsOf_v sub hp hz.1 rs
            refine call_dictP hc pins s σ H _ us Q I r ⟨p, as, kvs, rfl, .inl (.of q), k1, fun a ha => ?_⟩
            have hl : (ps.map Prod.fst).length = (kvs.map Prod.snd).length := by rw [← k2]; simp
            have := pr.dK sub k3 hl ha
            rw [mergeK_nil (by rw [k2]; exact hz.2)]
            rwa [← k2, show (kvs.map Prod.fst).zip (kvs.map Prod.snd) = kvs from by rw [List.zip_map']; simp] at this
          · cases e
        · cases e
      · cases e
theorem bolsOf_eq : ∀ {xs : List D} {ys : List Bool}, bolsOf xs = some ys → xs = ys.map D.bl
  | [], ys, h => by cases h; rfl
  | x :: xs, ys, h => by
    cases x <;> simp only [bolsOf] at h <;> try cases h
    obtain ⟨r, h1, rfl⟩ := Option.map_eq_some_iff.mp h
    rw [bolsOf_eq h1]; rfl
theorem reps_bol_v : ∀ {ys : List Bool} {vs : List V} {F : List Addr}, Reps X.K cA S H (ys.map D.bl) vs F → vs = ys.map V.bl ∧ F = []
  | [], _, _, h => by cases h; exact ⟨rfl, rfl⟩
  | y :: ys, _, _, h => by
    cases h with
    | cons r rs =>
      cases r
      obtain ⟨rfl, rfl⟩ := reps_bol_v rs
      exact ⟨rfl, rfl⟩
theorem c_all (hc : X.calm = true) : CallR X (.builtin "all") (rP X cA .all_) := by
  intro pins s σ H xs us Q I r h
  obtain ⟨S, ds, d, sub, al, e, pr⟩ := h
  cases al with
  | nil => cases e
  | cons h1 al =>
    cases al with
    | cons _ _ => cases e
    | nil =>
      obtain ⟨F, h1⟩ := h1
      simp only [P.ev] at e
      split at e
      · split at e
        · rename_i ys hy
          cases e
          obtain ⟨p, vs, G, rfl, q, rs⟩ := Rep.lst sub h1
          rw [bolsOf_eq hy] at rs
          obtain ⟨rfl, _⟩ := reps_bol_v rs
          exact cr_all hc pins s σ H _ us Q I r ⟨p, ys, rfl, .inl (.of q), pr.bl sub⟩
        · cases e
      · cases e
theorem c_int : CallR X (.type "int") (rP X cA .int_) := by
  intro pins s σ H xs us Q I r h
  obtain ⟨S, ds, d, sub, al, e, pr⟩ := h
  cases al with
  | nil => cases e
  | cons h1 al =>
    cases al with
    | cons _ _ => cases e
    | nil =>
      obtain ⟨F, h1⟩ := h1
      simp only [P.ev] at e
      split at e
      · cases e; cases h1
        exact call_int1 pins s σ H _ us Q I r (.inr ⟨_, rfl, pr.int sub⟩)
      · cases e; cases h1
        exact call_int1 pins s σ H _ us Q I r (.inl ⟨_, rfl, pr.int sub⟩)
      · split at e
        · rename_i hl
          obtain ⟨n, hn, e2⟩ := Option.map_eq_some_iff.mp e
          subst e2
          cases h1
          exact call_int_str pins s σ H _ us Q I r ⟨_, n, rfl, hn, hl, pr.int sub⟩
        · cases e
      · cases e
theorem c_str : CallR X (.type "str") (rP X cA .str_) := by
  intro pins s σ H xs us Q I r h
  obtain ⟨S, ds, d, sub, al, e, pr⟩ := h
  cases al with
  | nil => cases e
  | cons h1 al =>
    cases al with
    | cons _ _ => cases e
    | nil =>
      obtain ⟨F, h1⟩ := h1
      simp only [P.ev] at e
      split at e
      · split at e
        · rename_i hl
          cases e; cases h1
          exact call_str_int pins s σ H _ us Q I r ⟨_, rfl, hl, pr.str sub⟩
        · cases e
      · cases e; cases h1
        exact SkE.call_str_str pins s σ H _ us Q I r ⟨_, rfl, pr.str sub⟩
      · cases e
theorem c_min (hc : X.calm = true) : CallR X (.builtin "min") (rP X cA .min2) := by
  intro pins s σ H xs us Q I r h
  obtain ⟨S, ds, d, sub, al, e, pr⟩ := h
  cases al with
  | nil => cases e
  | cons h1 al =>
    cases al with
    | nil => cases e
    | cons h2 al =>
      cases al with
      | cons _ _ => cases e
      | nil =>
        obtain ⟨F, h1⟩ := h1
        obtain ⟨F2, h2⟩ := h2
        simp only [P.ev] at e
        split at e
        · cases e; cases h1; cases h2
          exact call_min2 hc pins s σ H _ us Q I r ⟨_, _, rfl, pr.int sub⟩
        · cases e
theorem c_max (hc : X.calm = true) : CallR X (.builtin "max") (rP X cA .max2) := by
  intro pins s σ H xs us Q I r h
  obtain ⟨S, ds, d, sub, al, e, pr⟩ := h
  cases al with
  | nil => cases e
  | cons h1 al =>
    cases al with
    | nil => cases e
    | cons h2 al =>
      cases al with
      | cons _ _ => cases e
      | nil =>
        obtain ⟨F, h1⟩ := h1
        obtain ⟨F2, h2⟩ := h2
        simp only [P.ev] at e
        split at e
        · cases e; cases h1; cases h2
          exact call_max2 hc pins s σ H _ us Q I r ⟨_, _, rfl, pr.int sub⟩
        · cases e
def Ty.nm : Ty → String
  | .bool => "bool" | .int => "int" | .str => "str" | .list => "list" | .tuple => "tuple" | .dict => "dict"
/-- a class of the text that is none of the built-in types asked about -/
structure IsK (K : PySem.W.Frag) (C : Addr) : Prop where
  cl : Cls K C
  ha : PySem.W.findIn K (.ref C) "__class__" = some (some (.builtin "object.__class__"))
  hn : PySem.W.specialIn K (.builtin "object.__class__") "__get__" = some (some (.builtin "getset_descriptor.__get__"))
  htk : PySem.W.takesIn K (.builtin "object.__class__") = some true
  hm : PySem.W.mroIn K C (.type "object") = some true
  no : ∀ t : Ty, PySem.W.kitOne K (.ref C) (.type t.nm) = some false
theorem c_isi (t : Ty) (cs : List Nat) (hcs : ∀ c ∈ cs, IsK X.K (cA c)) : CallR X (.builtin "isinstance") (fun xs H Q => ∃ x, xs = [x, .ty t.nm] ∧ rP X cA (.isi t cs) [x] H Q) := by
  intro pins s σ H xs us Q I r h
  obtain ⟨x, rfl, h⟩ := h
  obtain ⟨S, a, d, F, sub, ha, e, pr⟩ := rP1_of h
  simp only [P.ev] at e
  split at e
  · rename_i c ns o ys
    split at e
    · rename_i hc
      cases e
      have hk := hcs c (by simpa using hc)
      obtain ⟨p, dx, fs, rfl, q⟩ : ∃ p dx fs, x = .ref p ∧ H p = some (.ins (cA c) dx fs) := by
        cases ha with
        | fz n q rs z => obtain ⟨oo, q1, _, l, dx, rfl⟩ := q; exact ⟨_, dx, _, rfl, sub _ _ q1⟩
        | ow n q1 q rs => obtain ⟨_, l, dx, rfl⟩ := q; exact ⟨_, dx, _, rfl, q1⟩
      exact call_isi pins s σ H _ us Q I r ⟨.ref p, .ty t.nm, .ref (cA c), .type t.nm, false, rfl, .ty _, .base (.ins q hk.cl hk.ha hk.hn hk.htk hk.hm), hk.no t, pr.bl sub⟩
    · cases e
  rename_i hni
  simp only [Option.map_eq_some_iff] at e
  obtain ⟨k, ek, rfl⟩ := e
  have go : ∀ tv, TyX X.K H x tv → PySem.W.kitOne X.K tv (.type t.nm) = some k → wpAny (model X.prog X.w) X.A (call (.builtin "isinstance") us) (EP X pins σ Q) X.xe s := fun tv h1 h2 =>
    call_isi pins s σ H _ us Q I r ⟨x, .ty t.nm, tv, .type t.nm, k, rfl, .ty _, h1, h2, pr.bl sub⟩
  cases ha with
  | non => refine go _ (.base .non) ?_; cases t <;> cases ek <;> rfl
  | bl b => refine go _ (.base (.bl b)) ?_; cases t <;> cases ek <;> rfl
  | int i => refine go _ (.base (.int i)) ?_; cases t <;> cases ek <;> rfl
  | str z => refine go _ (.base (.str z)) ?_; cases t <;> cases ek <;> rfl
  | tup q rs => refine go _ (.base (.tup (sub _ _ q))) ?_; cases t <;> cases ek <;> rfl
  | @fz kd xs p vs n q rs z =>
    cases kd with
    | kt =>
      rcases SqT.mono sub q with (q | ⟨o, q⟩) | ⟨o, its, n, q1, q2, _⟩
      · refine go _ (.base (.tup q)) ?_; cases t <;> cases ek <;> rfl
      · refine go _ (.fTuple q) ?_; cases t <;> cases ek <;> rfl
      · refine go _ (.kTuple q1 q2) ?_; cases t <;> cases ek <;> rfl
    | lst =>
      obtain ⟨o, q, rfl⟩ := q
      refine go _ (.base (.lst (sub _ _ q))) ?_; cases t <;> cases ek <;> rfl
    | tup => exact absurd rfl n
    | scr => cases t <;> cases ek
    | dK _ => cases t <;> cases ek
    | dT _ => cases t <;> cases ek
    | ins c ns => exact (hni c ns _ _ rfl).elim
  | @ow kd xs p vs o F n q1 q rs =>
    cases kd with
    | lst =>
      cases q
      refine go _ (.base (.lst q1)) ?_; cases t <;> cases ek <;> rfl
    | tup => exact absurd rfl n
    | kt => exact absurd q (by simp [HoIs])
    | scr => exact absurd q (by simp [HoIs])
    | dK _ => cases t <;> cases ek
    | dT _ => cases t <;> cases ek
    | ins c ns => exact (hni c ns _ _ rfl).elim
/-- what the model looks at when it asks for a type -/
theorem isi_tv {a : D} {x : V} {F : List Addr} (cs : List Nat) (hcs : ∀ c ∈ cs, IsK X.K (cA c)) (sub : Sub S H) (ha : Rep X.K cA S H a x F) {H2 : Hp} (same : Same H H2) {t0 : Ty} {k0 : Bool} (e0 : isiB t0 cs a = some k0) : ∃ tv, TyX X.K H2 x tv ∧ ∀ (t : Ty) (k : Bool), isiB t cs a = some k → PySem.W.kitOne X.K tv (.type t.nm) = some k := by
  have ins : ∀ c, (if cs.contains c then some false else none) = some k0 → IsK X.K (cA c) ∧ ∀ k, (if cs.contains c then some false else none) = some k → k = false := fun c h => by
    split at h
    · rename_i hc
      refine ⟨hcs c (by simpa using hc), fun k hk => ?_⟩
      rw [if_pos hc] at hk
      cases hk; rfl
    · cases h
  cases ha with
  | non => refine ⟨_, .base .non, fun t k ek => ?_⟩; cases t <;> cases ek <;> rfl
  | bl b => refine ⟨_, .base (.bl b), fun t k ek => ?_⟩; cases t <;> cases ek <;> rfl
  | int i => refine ⟨_, .base (.int i), fun t k ek => ?_⟩; cases t <;> cases ek <;> rfl
  | str z => refine ⟨_, .base (.str z), fun t k ek => ?_⟩; cases t <;> cases ek <;> rfl
  | tup q rs => refine ⟨_, .base (.tup (same _ _ (sub _ _ q))), fun t k ek => ?_⟩; cases t <;> cases ek <;> rfl
  | @fz kd xs p vs n q rs z =>
    cases kd with
    | kt =>
      rcases SqT.mono (fun a o e => same a o (sub a o e)) q with (q | ⟨o, q⟩) | ⟨o, its, n, q1, q2, _⟩
      · refine ⟨_, .base (.tup q), fun t k ek => ?_⟩; cases t <;> cases ek <;> rfl
      · refine ⟨_, .fTuple q, fun t k ek => ?_⟩; cases t <;> cases ek <;> rfl
      · refine ⟨_, .kTuple q1 q2, fun t k ek => ?_⟩; cases t <;> cases ek <;> rfl
    | lst =>
      obtain ⟨o, q, rfl⟩ := q
      refine ⟨_, .base (.lst (same _ _ (sub _ _ q))), fun t k ek => ?_⟩; cases t <;> cases ek <;> rfl
    | tup => exact absurd rfl n
    | scr => cases t0 <;> cases e0
    | dK _ => cases t0 <;> cases e0
    | dT _ => cases t0 <;> cases e0
    | ins c ns =>
      obtain ⟨hk, hz⟩ := ins c e0
      obtain ⟨oo, q1, _, l, dx, rfl⟩ := q
      exact ⟨_, .base (.ins (same _ _ (sub _ _ q1)) hk.cl hk.ha hk.hn hk.htk hk.hm), fun t k ek => by rw [hz k ek]; exact hk.no t⟩
  | @ow kd xs p vs o F n q1 q rs =>
    cases kd with
    | lst =>
      cases q
      refine ⟨_, .base (.lst (same _ _ q1)), fun t k ek => ?_⟩; cases t <;> cases ek <;> rfl
    | tup => exact absurd rfl n
    | kt => exact absurd q (by simp [HoIs])
    | scr => exact absurd q (by simp [HoIs])
    | dK _ => cases t0 <;> cases e0
    | dT _ => cases t0 <;> cases e0
    | ins c ns =>
      obtain ⟨hk, hz⟩ := ins c e0
      obtain ⟨_, l, dx, rfl⟩ := q
      exact ⟨_, .base (.ins (same _ _ q1) hk.cl hk.ha hk.hn hk.htk hk.hm), fun t k ek => by rw [hz k ek]; exact hk.no t⟩
end
end TK
/-! TK, part 7: from the program's own tree to the small language. Own work. -/
namespace TK
open PySem
structure Cf where
  N : List Str
  sc : Scope
  fns : List (Str × Nat × Nat × List Cn)
  cls : List (Str × Nat)
  cons : List Str
  lock : List Nat
  prot : List Nat
  mths : List Str := []
  isk : List Nat := []
  dcts : List Str := []
  mv : List Nat := []
inductive Md | op | val | arg
  deriving DecidableEq
def slotOf (c : Cf) (x : Str) : Option Nat := match c.sc.names.lookup x with
  | some .local => c.N.findIdx? (· = x)
  | some .cell => c.N.findIdx? (· = x)
  | some .free => c.N.findIdx? (· = x)
  | _ => none
def isGl (c : Cf) (x : Str) : Bool := match c.sc.names.lookup x with
  | some .globalImplicit => true
  | _ => false
def isLc (c : Cf) (x : Str) : Bool := match c.sc.names.lookup x with
  | some .local => true
  | some .cell => true
  | _ => false
def rootX : Ex → Option Nat
  | .pk i => some i
  | .ix a _ => rootX a
  | .fld a _ => rootX a
  | _ => none
def mutRoot (c : Cf) (x : Ex) : Bool := match rootX x with
  | some i => !c.lock.contains i
  | none => true
/-- what comes behind x lets x's root be, where x is a place within it -/
def Cf.lk (c : Cf) : Ex → Cf
  | .ix a _ => match rootX a with
    | some i => { c with lock := i :: c.lock }
    | none => c
  | .fld a _ => match rootX a with
    | some i => { c with lock := i :: c.lock }
    | none => c
  | _ => c
def finX (c : Cf) (m : Md) (x : Ex) : Ex := match m with
  | .op => x
  | _ => match rootX x with
    | some i => if c.lock.contains i then x else .cs i x
    | none => x
def binP : Operator → Option P
  | .Add => some .add | .Sub => some .sub | .Mult => some .mul | .FloorDiv => some .fdiv | .Mod => some .mod | .Pow => some .pow
  | _ => none
def cmpP : CmpOp → Option P
  | .Eq => some .eq | .NotEq => some .ne | .Lt => some .lt | .LtE => some .le | .Gt => some .gt | .GtE => some .ge | .In => some .inn | .NotIn => some .notin
  | _ => none
def noStar : Expr → Bool
  | .Starred _ _ => false
  | _ => true
/-- no set display (marks), no super() -/
def plainE : Expr → Bool
  | .Starred _ _ => false
  | .Set _ _ _ => false
  | .Slice _ _ _ _ => false
  | _ => true
def plainO : Expr → Bool
  | .Call (.Name _ _) [] [] _ => false
  | e => plainE e
/-- a table of the text -/
def dctName (c : Cf) : Expr → Option Str
  | .Name x _ => if isGl c x && c.dcts.contains x then some x else none
  | _ => none
def litKey : Expr → Option Key
  | .Constant (.int i) _ _ => some (.inl i)
  | .Constant (.str x) _ _ => some (.inr x)
  | _ => none
def litVal : Expr → Option Cn
  | .Constant .none _ _ => some .non
  | .Constant (.bool b) _ _ => some (.bl b)
  | .Constant (.int i) _ _ => some (.int i)
  | .Constant (.str x) _ _ => some (.str x)
  | _ => none
def litKvs : List (Option Expr) → List Expr → Option (List (Key × Cn))
  | [], [] => some []
  | some k :: ks, v :: vs => match litKey k, litVal v, litKvs ks vs with
    | some q, some w, some r => some ((q, w) :: r)
    | _, _, _ => none
  | _, _ => none
def isRev : Expr → Bool
  | .Slice none none (some (.UnaryOp .USub (.Constant (.int 1) _ _) _)) _ => true
  | _ => false
def tyOf (x : Str) : Option Ty :=
  if x = "bool" then some .bool else if x = "int" then some .int else if x = "str" then some .str else if x = "list" then some .list else if x = "tuple" then some .tuple else if x = "dict" then some .dict else none
inductive Blt | set | enum | len | list | tuple | int | str | min | max | isi | sorted | all | dict
  deriving DecidableEq
def bltOf (x : Str) : Option Blt :=
  if x = "len" then some .len else if x = "list" then some .list else if x = "tuple" then some .tuple else if x = "int" then some .int else if x = "str" then some .str else if x = "min" then some .min else if x = "max" then some .max else if x = "isinstance" then some .isi else if x = "sorted" then some .sorted else if x = "all" then some .all else if x = "dict" then some .dict else if x = "set" then some .set else if x = "enumerate" then some .enum else none
def mutOf (x : Str) : Option M :=
  if x = "append" then some .append else if x = "clear" then some .clear else if x = "reverse" then some .reverse else if x = "extend" then some .extend else if x = "insert" then some .insert else none
/-- set(a) -/
def setCall : Expr → Option Expr
  | .Call (.Name g _) [a] [] _ => if g = "set" then some a else none
  | _ => none
/-- set(a) | set(b) -/
def setOr : Expr → Option (Expr × Expr)
  | .BinOp l .BitOr r _ => match setCall l, setCall r with
    | some a, some b => some (a, b)
    | _, _ => none
  | _ => none
def Exs.of : List Ex → Exs
  | [] => .nil
  | x :: r => .cons x (Exs.of r)
/-- the slots that are handed on as they are -/
def Exs.pks : Exs → List Nat
  | .nil => []
  | .cons (.pk i) r => i :: r.pks
  | .cons _ r => r.pks
mutual
/-- its evaluation leaves the slots -/
def Ex.quiet : Ex → Bool
  | .con _ => true | .glo _ => true | .pk _ => true | .vz _ => true
  | .prim _ as => as.quiet
  | .ix a b => a.quiet && b.quiet
  | _ => false
def Exs.quiet : Exs → Bool
  | .nil => true
  | .cons a as => a.quiet && as.quiet
end
/-- what may stand as a test -/
def tstOk : Expr → Bool
  | .IfExp _ _ _ _ => false
  | _ => true
section
variable (cE : Cf → Md → Expr → Option Ex)
def cArgs (c : Cf) (m : Md) : List Expr → Option Exs
  | [] => some .nil
  | e :: es => if noStar e then match cE c m e with
    | some x => match cArgs (c.lk x) m es with
      | some xs => some (.cons x xs)
      | none => none
    | none => none
    else none
def cCond (c : Cf) : List Expr → Option Ex
  | [] => some (.con (.bl true))
  | [t] => if tstOk t then cE c .op t else none
  | _ => none
def cTgOne (c : Cf) : Expr → Option Nat
  | .Name x _ => match slotOf c x with
    | some i => if (c.lock.contains i || c.prot.contains i) then none else
      if isLc c x then some i else none
    | none => none
  | _ => none
def cTgs (c : Cf) : List Expr → Option (List Nat)
  | [] => some []
  | e :: es => match cTgOne c e, cTgs c es with
    | some i, some is => if is.contains i then none else some (i :: is)
    | _, _ => none
def cTg (c : Cf) : Expr → Option Tg
  | .Tuple es _ _ => (cTgs c es).map .tp
  | e => (cTgOne c e).map .nm
end
def tgs : Tg → List Nat
  | .nm i => [i]
  | .tp is => is
def ownOf1 (c : Cf) : Expr → List (Str × Nat)
  | .Name x _ => match slotOf c x with
    | some i => [(x, i)]
    | none => []
  | _ => []
def ownOf (c : Cf) : Expr → List (Str × Nat)
  | .Tuple es _ _ => es.flatMap (ownOf1 c)
  | e => ownOf1 c e
def addLk (c : Cf) : It → Cf
  | .seq a => match rootX a with
    | some i => { c with lock := i :: c.lock }
    | none => c
  | .enum a => match rootX a with
    | some i => { c with lock := i :: c.lock }
    | none => c
  | _ => c
/-- enumerate: into a tuple of names -/
def enOk (tg : Expr) : It → Bool
  | .enum _ => (match tg with
    | .Tuple _ _ _ => true
    | _ => false)
  | _ => true
/-- a display of a dict -/
def cDct : Expr → Option Ex
  | .Dict ks vs _ => match litKvs ks vs with
    | some kvs => if decide (1 ≤ kvs.length) && decide (kvs.length ≤ 15) && decide ((kvs.map Prod.fst).Nodup) then some (.dlit kvs) else none
    | none => none
  | _ => none
def cE : Nat → Cf → Md → Expr → Option Ex
  | 0, _, _, _ => none
  | n + 1, c, m, e => match e with
    | .Constant .none _ _ => some (.con .non)
    | .Constant (.bool b) _ _ => some (.con (.bl b))
    | .Constant (.int i) _ _ => some (.con (.int i))
    | .Constant (.str x) _ _ => some (.con (.str x))
    | .Name x _ => match slotOf c x with
      | some i => some (match m with
        | .op => .pk i
        | .val => if c.lock.contains i then .vz i else .var i
        | .arg => if c.lock.contains i then .vz i else .pk i)
      | none => if isGl c x && c.cons.contains x then some (.glo x) else none
    | .BinOp a o b _ => match binP o, cE n c .op a with
      | some p, some xa => match cE n (c.lk xa) .op b with
        | some xb => some (.prim p (Exs.of [xa, xb]))
        | none => none
      | _, _ => none
    | .UnaryOp .USub a _ => match cE n c .op a with
      | some xa => some (.prim .neg (Exs.of [xa]))
      | none => none
    | .UnaryOp .Not a _ => if tstOk a then match cE n c .op a with
      | some xa => some (.nott xa)
      | none => none
      else none
    | .BoolOp o (a :: b :: r) pos => if tstOk a && tstOk b then match cE n c .op a, (if r.isEmpty then cE n c .op b else cE n c .op (.BoolOp o (b :: r) pos)) with
      | some xa, some xb => some (match o with
        | .And => .ands xa xb
        | .Or => .ors xa xb)
      | _, _ => none
      else none
    | .IfExp t a b _ => if tstOk t then match cE n c .op t, cE n c .val a, cE n c .val b with
      | some xt, some xa, some xb => some (.ite xt xa xb)
      | _, _, _ => none
      else none
    | .Compare a [o] [b] _ => match o, b with
      | .Is, .Constant .none _ _ => match cE n c .op a with
        | some xa => some (.prim .isn (Exs.of [xa]))
        | none => none
      | .IsNot, .Constant .none _ _ => match cE n c .op a with
        | some xa => some (.prim .notn (Exs.of [xa]))
        | none => none
      | _, _ => match cmpP o, cE n c .op a with
        | some p, some xa => if plainE b then match cE n (c.lk xa) .op b with
          | some xb => some (.prim p (Exs.of [xa, xb]))
          | none => none
          else none
        | _, _ => none
    | .Compare a [o, o'] [b, z] _ => match cmpP o, cmpP o', cE n c .op a with
      | some p, some q, some xa => if plainE z && plainE b then match cE n (c.lk xa) .op b with
        | some xb => match cE n ((c.lk xa).lk xb) .op z with
          | some xz => some (.chain p q xa xb xz)
          | none => none
        | none => none
        else none
      | _, _, _ => none
    | .Tuple es _ _ => match cArgs (cE n) c .val es with
      | some xs => some (.tup xs)
      | none => none
    | .List es _ => match cArgs (cE n) c .val es with
      | some xs => some (.lst xs)
      | none => none
    | .Subscript a (.Slice lo hi none _) _ => match cE n c .op a with
      | some xa => match lo, hi with
        | none, none => some (.prim (.sl false false) (Exs.of [xa]))
        | some l, none => match cE n (c.lk xa) .op l with
          | some xl => some (.prim (.sl true false) (Exs.of [xa, xl]))
          | none => none
        | none, some h => match cE n (c.lk xa) .op h with
          | some xh => some (.prim (.sl false true) (Exs.of [xa, xh]))
          | none => none
        | some l, some h => match cE n (c.lk xa) .op l with
          | some xl => match cE n ((c.lk xa).lk xl) .op h with
            | some xh => if xh.quiet then some (.prim (.sl true true) (Exs.of [xa, xl, xh])) else none
            | none => none
          | none => none
      | none => none
    | .Subscript a b _ => if isRev b then (match cE n c .op a with
      | some xa => some (.prim .rev_ (Exs.of [xa]))
      | none => none)
      else if plainE b then match dctName c a with
      | some x => (match cE n c .op b with
        | some xb => some (.kix x xb)
        | none => none)
      | none => match cE n c .op a with
        | some xa => match cE n (c.lk xa) .op b with
          | some xb => some (finX c m (.ix xa xb))
          | none => none
        | none => none
      else none
    | .Call (.Name f _) as [] _ =>
      if isGl c f then
        match c.fns.lookup f with
        | some (id, np, df) => if as.length ≤ np && np ≤ as.length + df.length && !as.isEmpty then match cArgs (cE n) c .arg as with
          | some xs => if xs.pks.all (fun i => !c.lock.contains i) then some (.call id xs (df.drop (as.length + df.length - np))) else none
          | none => none
          else none
        | none => match c.cls.lookup f with
          | some ci => match cArgs (cE n) c .arg as with
            | some xs => if xs.pks.all (fun i => !c.lock.contains i) then some (.new ci xs) else none
            | none => none
          | none => match bltOf f, as with
          | some .isi, [a, .Name t _] => match tyOf t, cE n c .op a with
            | some ty, some xa => if noStar a && isGl c t then some (.prim (.isi ty c.isk) (Exs.of [xa])) else none
            | _, _ => none
          | some .isi, [a, .Tuple [.Name t _, .Name u _] _ _] => match tyOf t, tyOf u, cE n c .op a with
            | some ty, some tz, some xa => if noStar a && isGl c t && isGl c u then some (.prim (.isi2 ty tz c.isk) (Exs.of [xa])) else none
            | _, _, _ => none
          | some .len, [a] => if noStar a then (cE n c .op a).map fun x => .prim .len (Exs.of [x]) else none
          | some .list, [a] => if noStar a then (cE n c .op a).map fun x => .prim .list_ (Exs.of [x]) else none
          | some .tuple, [a] => if noStar a then (cE n c .op a).map fun x => .prim .tuple_ (Exs.of [x]) else none
          | some .sorted, [a] => match setOr a with
            | some (y, z) => if isGl c "set" && (noStar y && noStar z) then match cE n c .op y with
              | some xy => match cE n (c.lk (.prim .ssort (Exs.of [xy]))) .op z with
                | some xz => some (.prim .usort (Exs.of [.prim .ssort (Exs.of [xy]), xz]))
                | none => none
              | none => none
              else none
            | none => match setCall a with
              | some y => if isGl c "set" && noStar y then (cE n c .op y).map fun x => .prim .ssort (Exs.of [x]) else none
              | none => if noStar a then (cE n c .op a).map fun x => .prim .sorted (Exs.of [x]) else none
          | some .all, [a] => if noStar a then (cE n c .op a).map fun x => .prim .all_ (Exs.of [x]) else none
          | some .dict, [a] => if noStar a then (cE n c .op a).map fun x => .prim .dict_ (Exs.of [x]) else none
          | some .int, [a] => if noStar a then (cE n c .op a).map fun x => .prim .int_ (Exs.of [x]) else none
          | some .str, [a] => if noStar a then (cE n c .op a).map fun x => .prim .str_ (Exs.of [x]) else none
          | some .min, [a, b] => match cArgs (cE n) c .op [a, b] with
            | some xs => some (.prim .min2 xs)
            | none => none
          | some .max, [a, b] => match cArgs (cE n) c .op [a, b] with
            | some xs => some (.prim .max2 xs)
            | none => none
          | _, _ => none
      else none
    | .Call (.Attribute o f apos) as [] pos => if plainO o && (apos.endLine == pos.line) then
        match mutOf f with
        | some m => match cE n c .op o with
          | some xo => if mutRoot c xo then match cArgs (cE n) (c.lk xo) .val as with
            | some xs => if as.length ≤ 2 then some (.mut xo m xs) else none
            | none => none
            else none
          | none => none
        | none => if f = "join" then match o, as with
          | .Constant (.str z) _ _, [a] => if noStar a then match cE n c .op a with
            | some xa => some (.prim .join (Exs.of [.con (.str z), xa]))
            | none => none
            else none
          | _, _ => none
          else if f = "split" then match as with
          | [.Constant (.str z) _ _] => match cE n c .op o with
            | some xo => some (.prim .split (Exs.of [xo, .con (.str z)]))
            | none => none
          | _ => none
          else if c.mths.contains f then match cE n c .arg o with
          | some xo => match cArgs (cE n) (c.lk xo) .arg as with
            | some xs => if (Exs.cons xo xs).pks.all (fun i => !c.lock.contains i) && decide (as.length ≤ 20) then some (.meth f xo xs) else none
            | none => none
          | none => none
          else none
        else none
    | .Attribute o f _ => if plainO o then match cE n c .op o with
      | some xo => some (finX c m (.fld xo f))
      | none => none
      else none
    | .ListComp el [⟨tg, it, ifs, 0⟩] sc _ => match cLc n c .op el tg it ifs sc with
      | some x => some x
      | none => cLc n c .val el tg it ifs sc
    | e => cDct e
where
  cLc : Nat → Cf → Md → Expr → Expr → Expr → List Expr → Scope → Option Ex
  | 0, _, _, _, _, _, _, _ => none
  | n + 1, c, m, el, tg, it, ifs, sc => match cIt n c m it with
    | some xi => match cTg { addLk c xi with sc := sc } tg, cCond (cE n) { addLk c xi with sc := sc } ifs, cE n { addLk c xi with sc := sc } .val el with
      | some t, some cd, some el => if L2.blkC c.N c.sc sc (ownOf { addLk c xi with sc := sc } tg) && decide ((ownOf { addLk c xi with sc := sc } tg).map (·.2) = tgs t) && enOk tg xi then some (.lc t xi cd el) else none
      | _, _, _ => none
    | none => none
  cIt : Nat → Cf → Md → Expr → Option It
  | 0, _, _, _ => none
  | n + 1, c, m, e => match e with
    | .Call (.Name f _) [a] [] _ => if isGl c f && (f = "range") then (if noStar a then (cE n c .op a).map .rng1 else none) else if isGl c f && (f = "enumerate") then (if noStar a then (cE n c m a).map .enum else none) else (cE n c m e).map .seq
    | .Call (.Name f _) [a, b] [] _ => if isGl c f && (f = "range") then (if noStar a && noStar b then match cE n c .op a with
      | some xa => match cE n (c.lk xa) .op b with
        | some xb => some (.rng2 xa xb)
        | none => none
      | none => none
      else none) else (cE n c m e).map .seq
    | e => if plainE e then (cE n c m e).map .seq else none
/-! ### statements -/
def isComp : Expr → Bool
  | .ListComp _ _ _ _ => true
  | .SetComp _ _ _ _ => true
  | .DictComp _ _ _ _ _ => true
  | _ => false
def isTup : Expr → Bool
  | .Tuple _ _ _ => true
  | .List _ _ => true
  | _ => false
/-- name = a comprehension, on one line -/
def swapB (c : Cf) (x : Str) (px : Pos) (scope : Scope) (pos : Pos) : Bool :=
  decide (c.sc.names.lookup x = some .local) && (px.line == pos.line) && !(scope.names.any fun (n, k) => n == x && (k == .local || k == .cell))
def cSs (f : Cf → Stmt → Option Sm) (c : Cf) : List Stmt → Option Sms
  | [] => some .nil
  | s :: r => match f c s, cSs f c r with
    | some x, some xs => some (.cons x xs)
    | _, _ => none
def cItB (n : Nat) (c : Cf) (e : Expr) : Option It := match cE.cIt n c .op e with
  | some x => some x
  | none => cE.cIt n c .val e
/-- a name that is handed over at the end -/
def mvX (c : Cf) : Expr → Option Ex
  | .Name x _ => match slotOf c x with
    | some i => if c.mv.contains i && !c.lock.contains i then some (.mv i) else none
    | none => none
  | _ => none
def cS : Nat → Cf → Stmt → Option Sm
  | 0, _, _ => none
  | n + 1, c, s => match s with
    | .Assign [.Subscript a b _] e _ => if plainE b && !isComp e then match cE n c .val e, cE n c .op a with
      | some xe, some xa => if mutRoot c xa then match cE n (c.lk xa) .op b with
        | some xb => some (.sub xa xb xe)
        | none => none
        else none
      | _, _ => none
      else none
    | .Assign [.Attribute a f _] e _ => if plainO a && !isComp e then match cE n c .val e, cE n c .op a with
      | some xe, some xa => if mutRoot c xa then some (.sfld xa f xe) else none
      | _, _ => none
      else none
    | .Assign [.Name x px] (.ListComp el gs sc pos) _ => match cTg c (.Name x px), cE n c .val (.ListComp el gs sc pos) with
      | some tg, some xe => some (.asg tg xe)
      | _, _ => none
    | .Assign [tg] e _ => if !isComp e && !isTup e then match cTg c tg, cE n c .val e with
      | some tg, some xe => some (.asg tg xe)
      | _, _ => none
      else (match tg with
        | .Name x px => if !isComp e then match cTg c (.Name x px), cE n c .val e with
          | some tg, some xe => some (.asg tg xe)
          | _, _ => none
          else none
        | _ => none)
    | .Expr e _ => if isComp e then none else (cE n c .op e).map .expr
    | .If t a b _ => if tstOk t then match cE n c .op t, cSs (cS n) c a, cSs (cS n) c b with
      | some xt, some xa, some xb => some (.iff xt xa xb)
      | _, _, _ => none
      else none
    | .For tg it body [] _ => match cItB n c it, cTg (match cItB n c it with | some xi => addLk c xi | none => c) tg, cSs (cS n) (match cItB n c it with | some xi => addLk c xi | none => c) body with
      | some xi, some tgx, some xb => if enOk tg xi then some (.for_ tgx xi xb) else none
      | _, _, _ => none
    | .While t body [] _ => if tstOk t then match cE n c .op t, cSs (cS n) c body with
      | some xt, some xb => some (.whil xt xb)
      | _, _ => none
      else none
    | .Return (some e) _ => match mvX c e with
      | some x => some (.ret x)
      | none => (cE n c .val e).map .ret
    | .Return none _ => some .retn
    | .Break _ => some .brk
    | .Pass _ => some .pass
    | .Raise _ _ _ => some .nev
    | _ => none
end TK
/-! TK, part 8: the constructs, one by one. Own work. -/
namespace TK
open PySem L2
section
variable {X : Cx} {cA : Nat → Addr} {G : Sig} {cl : Cl} {L : LK}
abbrev OkE (X : Cx) (cA : Nat → Addr) (G : Sig) (cl : Cl) (L : LK) (e : Expr) (x : Ex) : Prop := PE X e (tX X.K cA L (fun r => x.ev G cl r))
variable {r r' r1 r2 : Env} {p p' p1 p2 : Nat → List Addr} {S S' S1 S2 H H' H1 H2 : Hp} {F F1 F2 : List Addr} {s : St} {Q : VK}
/-- a value that needs no heap -/
theorem tX_here {K : PySem.W.Frag} {g : Env → Option (R × Env)} {d : D} {v : V} (h : tX K cA L g s H Q) (hg : ∀ r, g r = some (.tm d, r)) (rp : ∀ S, Rep K cA S H d v []) : Q v H := by
  obtain ⟨S, r, p, x, r', st, e, k⟩ := h
  rw [hg] at e; cases e
  exact k v S H p [] st ⟨rp S, Tmp.nil⟩ Eff.refl
theorem e_non {k pos} : OkE X cA G cl L (.Constant .none k pos) (.con .non) := PE.imp pe_non fun s H Q h => tX_here h (fun _ => rfl) fun _ => .non
theorem e_bl {b k pos} : OkE X cA G cl L (.Constant (.bool b) k pos) (.con (.bl b)) := PE.imp pe_bl fun s H Q h => tX_here h (fun _ => rfl) fun _ => .bl b
theorem e_int {b k pos} : OkE X cA G cl L (.Constant (.int b) k pos) (.con (.int b)) := PE.imp pe_int fun s H Q h => tX_here h (fun _ => rfl) fun _ => .int b
theorem e_str {b k pos} : OkE X cA G cl L (.Constant (.str b) k pos) (.con (.str b)) := PE.imp pe_str fun s H Q h => tX_here h (fun _ => rfl) fun _ => .str b
theorem e_glo {x : Str} {v : V} {u : Value} {d : D} {pos : Pos} (hg : Gl X x) (hm : X.mg x = some u) (r : RelV v u) (hd : G.consts.lookup x = some d) (rp : ∀ S H, Rep X.K cA S H d v []) (hx : (x == ("__debug__" : Str)) = false) :
    OkE X cA G cl L (.Name x pos) (.glo x) := PE.imp (pe_glob hg hm r hx) fun s H Q h => tX_here h (fun r => by simp [Ex.ev, hd]) fun S => rp S H
/-! ### names -/
theorem e_pk {i : Nat} {x : Str} {pos : Pos} (hN : X.N[i]? = some x) (hv : Vis X.env.scope x) (h1 : (x == ("__debug__" : Str)) = false) (h2 : (x == ("__classdict__" : Str)) = false) : OkE X cA G cl L (.Name x pos) (.pk i) := by
  refine PE.imp (pe_var hN hv h1 h2) fun s H Q ⟨S, r, p, x, r', st, e, k⟩ => ?_
  simp only [Ex.ev] at e
  split at e
  · rename_i d hd
    cases e
    obtain ⟨v, hv, rp⟩ := st.rep i d hd
    exact ⟨v, hv, k v S H p [] st ⟨hv, rfl⟩ Eff.refl⟩
  · cases e
theorem e_vz {i : Nat} {x : Str} {pos : Pos} (hN : X.N[i]? = some x) (hv : Vis X.env.scope x) (h1 : (x == ("__debug__" : Str)) = false) (h2 : (x == ("__classdict__" : Str)) = false) : OkE X cA G cl L (.Name x pos) (.vz i) := by
  refine PE.imp (pe_var hN hv h1 h2) fun s H Q ⟨S, r, p, x, r', st, e, k⟩ => ?_
  simp only [Ex.ev] at e
  split at e
  · rename_i d hd
    split at e
    · rename_i hf
      cases e
      obtain ⟨v, hv, rp⟩ := st.rep i d hd
      exact ⟨v, hv, k v S H p [] st ⟨Rep.fzmono (fun _ _ e => e) rp hf, Tmp.nil⟩ Eff.refl⟩
    · cases e
  · cases e
theorem gt_set {r : Env} {i j : Nat} {d : Option D} (hi : i < r.length) : gt (r.set i d) j = if j = i then d else gt r j := by
  unfold gt
  by_cases h : j = i
  · subst h
    rw [List.getElem?_set_self hi, if_pos rfl]
    cases d <;> rfl
  · rw [List.getElem?_set_ne (fun z => h z.symm), if_neg h]
theorem gt_lt {r : Env} {i : Nat} {d : D} (h : gt r i = some d) : i < r.length := by
  unfold gt at h
  split at h
  · rename_i d' e
    exact (List.getElem?_eq_some_iff.mp e).1
  · cases h
/-- a slot's own objects go over to the still part -/
def frzS (S H : Hp) (F : List Addr) : Hp := fun a => if a ∈ F then H a else S a
theorem Stt.freeze {K : PySem.W.Frag} {i : Nat} {d : D} (st : Stt K cA S H r s p) (hd : gt r i = some d) :
    Stt K cA (frzS S H (p i)) H (r.set i (some d.fr)) s (fun j => if j = i then [] else p j) ∧ (L i = false → Eff L r p S H (r.set i (some d.fr)) (fun j => if j = i then [] else p j) [] (frzS S H (p i)) H) ∧
      ∃ v, s[i]? = some (some v) ∧ Rep K cA (frzS S H (p i)) H d.fr v [] := by
  have hi := gt_lt hd
  have hs : Sub S (frzS S H (p i)) := fun a o e => by
    unfold frzS
    split
    · exact st.sub a o e
    · exact e
  have hsub : Sub (frzS S H (p i)) H := fun a o e => by
    unfold frzS at e
    split at e
    · exact e
    · exact st.sub a o e
  obtain ⟨v, hv, rp⟩ := st.rep i d hd
  have rp2 : Rep K cA (frzS S H (p i)) H d.fr v [] := Rep.frz hs d rp fun a ha => by unfold frzS; rw [if_pos ha]
  refine ⟨⟨hsub, by rw [List.length_set]; exact st.len, fun j e he => ?_, fun j he => ?_, fun j => ?_, fun j k a hjk h1 h2 => ?_, fun j a ha => ?_⟩, fun hL => ⟨hs, fun a o e _ => e, fun a o e => ?_, fun j hj => ?_, fun j a hj ha => ?_, fun a ha => absurd ha (by simp), by rw [List.length_set]⟩, v, hv, rp2⟩
  · rw [gt_set hi] at he
    by_cases hj : j = i
    · subst hj
      rw [if_pos rfl] at he
      cases he
      refine ⟨v, hv, ?_⟩
      simp only [if_pos]
      exact rp2
    · rw [if_neg hj] at he
      obtain ⟨w, hw, rq⟩ := st.rep j e he
      refine ⟨w, hw, ?_⟩
      simp only [if_neg hj]
      exact Rep.mono hs e rq fun a _ => rfl
  · rw [gt_set hi] at he
    by_cases hj : j = i
    · simp only [if_pos hj]
    · rw [if_neg hj] at he
      simp only [if_neg hj]
      exact st.emp j he
  · by_cases hj : j = i
    · simp only [if_pos hj]; exact List.nodup_nil
    · simp only [if_neg hj]; exact st.nd j
  · by_cases hj : j = i
    · simp only [if_pos hj] at h1; exact absurd h1 (by simp)
    · by_cases hk : k = i
      · simp only [if_pos hk] at h2; exact absurd h2 (by simp)
      · simp only [if_neg hj] at h1
        simp only [if_neg hk] at h2
        exact st.dj j k a hjk h1 h2
  · by_cases hj : j = i
    · simp only [if_pos hj] at ha; exact absurd ha (by simp)
    · simp only [if_neg hj] at ha
      unfold frzS
      rw [if_neg fun z => st.dj j i a hj ha z]
      exact st.own j a ha
  · unfold frzS at e
    split at e
    · rename_i ha
      exact .inr (.inr ⟨i, hL, ha⟩)
    · exact .inl e
  · have hj' : j ≠ i := fun z => by subst z; rw [hL] at hj; cases hj
    refine ⟨?_, by simp only [if_neg hj']⟩
    rw [gt_set hi, if_neg hj']
  · by_cases hji : j = i
    · simp only [if_pos hji] at ha; exact absurd ha (by simp)
    · simp only [if_neg hji] at ha
      exact .inr ⟨j, hj, ha⟩
theorem e_var {i : Nat} {x : Str} {pos : Pos} (hN : X.N[i]? = some x) (hv : Vis X.env.scope x) (hL : L i = false) (h1 : (x == ("__debug__" : Str)) = false) (h2 : (x == ("__classdict__" : Str)) = false) : OkE X cA G cl L (.Name x pos) (.var i) := by
  refine PE.imp (pe_var hN hv h1 h2) fun s H Q ⟨S, r, p, x, r', st, e, k⟩ => ?_
  simp only [Ex.ev] at e
  split at e
  · rename_i d hd
    cases e
    obtain ⟨st2, ef, v, hv, rp⟩ := st.freeze (L := L) hd
    exact ⟨v, hv, k v _ H _ [] st2 ⟨rp, Tmp.nil⟩ (ef hL)⟩
  · cases e
/-- a slot's thing is taken out of it -/
theorem e_mv {i : Nat} {x : Str} {pos : Pos} (hN : X.N[i]? = some x) (hv : Vis X.env.scope x) (hL : L i = false) (h1 : (x == ("__debug__" : Str)) = false) (h2 : (x == ("__classdict__" : Str)) = false) : OkE X cA G cl L (.Name x pos) (.mv i) := by
  refine PE.imp (pe_var hN hv h1 h2) fun s H Q ⟨S, r, p, x, r', st, e, k⟩ => ?_
  simp only [Ex.ev] at e
  split at e
  · rename_i d hd
    cases e
    obtain ⟨v, hv, rp⟩ := st.rep i d hd
    have hi := gt_lt hd
    refine ⟨v, hv, k v S H (fun j => if j = i then [] else p j) (p i) ⟨st.sub, by rw [List.length_set]; exact st.len, fun j e he => ?_, fun j he => ?_, fun j => ?_, fun j l a hjl q1 q2 => ?_, fun j a ha => ?_⟩ ⟨rp, st.nd i, fun j a q1 q2 => ?_, fun a ha => st.own i a ha⟩
      ⟨fun _ _ e => e, fun a o e _ => e, fun a o e => .inl e, fun j hj => ?_, fun j a hj ha => ?_, fun a ha => .inr ⟨i, hL, ha⟩, by rw [List.length_set]⟩⟩
    · rw [gt_set hi] at he
      by_cases hj : j = i
      · rw [if_pos hj] at he; cases he
      · rw [if_neg hj] at he
        simp only [if_neg hj]
        exact st.rep j e he
    · rw [gt_set hi] at he
      by_cases hj : j = i
      · simp only [if_pos hj]
      · rw [if_neg hj] at he
        simp only [if_neg hj]
        exact st.emp j he
    · by_cases hj : j = i
      · simp only [if_pos hj]; exact List.nodup_nil
      · simp only [if_neg hj]; exact st.nd j
    · by_cases hj : j = i
      · simp only [if_pos hj] at q1; exact absurd q1 (by simp)
      · by_cases hl : l = i
        · simp only [if_pos hl] at q2; exact absurd q2 (by simp)
        · simp only [if_neg hj] at q1
          simp only [if_neg hl] at q2
          exact st.dj j l a hjl q1 q2
    · by_cases hj : j = i
      · simp only [if_pos hj] at ha; exact absurd ha (by simp)
      · simp only [if_neg hj] at ha; exact st.own j a ha
    · by_cases hj : j = i
      · simp only [if_pos hj] at q1; exact absurd q1 (by simp)
      · simp only [if_neg hj] at q1; exact st.dj j i a hj q1 q2
    · have hji : j ≠ i := fun z => by rw [z, hL] at hj; cases hj
      exact ⟨by rw [gt_set hi, if_neg hji], by simp only [if_neg hji]⟩
    · by_cases hji : j = i
      · simp only [if_pos hji] at ha; exact absurd ha (by simp)
      · simp only [if_neg hji] at ha; exact .inr ⟨j, hj, ha⟩
  · cases e
/-- ahead of an expression, a slot is locked where the expression would lend a part of it -/
theorem e_cs {i : Nat} {e : Expr} {x : Ex} (h : OkE X cA G cl L e x) (hL : L i = false) : OkE X cA G cl L e (.cs i x) := by
  refine PE.imp h fun s H Q ⟨S, r, p, y, r', st, e, k⟩ => ?_
  simp only [Ex.ev] at e
  split at e
  · rename_i d e1 he
    cases e
    exact ⟨S, r, p, _, _, st, he, k⟩
  · split at e
    · rename_i d hd
      split at e
      · rename_i d' e1 he
        cases e
        obtain ⟨st2, ef, v, hv, rp⟩ := st.freeze (L := L) hd
        refine ⟨_, _, _, _, _, st2, he, fun v S' H' p' F st' rr g => k v S' H' p' F st' rr ?_⟩
        simpa using (ef hL).trans g
      · cases e
    · cases e
  · cases e
end
end TK
/-! TK, part 9: operations, tests, argument lists, displays. Own work. -/
namespace TK
open PySem L2
section
variable {X : Cx} {cA : Nat → Addr} {G : Sig} {cl : Cl} {L Lb : LK}
abbrev tb1 (G : Sig) (cl : Cl) (x : Ex) : Env → Option (Bool × Env) := fun r => bool1 (x.ev G cl r)
abbrev OkT (X : Cx) (cA : Nat → Addr) (G : Sig) (cl : Cl) (L : LK) (e : Expr) (x : Ex) : Prop := PT X e (tT X.K cA L (tb1 G cl x))
abbrev OkA (X : Cx) (cA : Nat → Addr) (G : Sig) (cl : Cl) (L : LK) (es : List Expr) (xs : Exs) : Prop := PA X es (tXs X.K cA L (fun r => xs.ev G cl r))
/-- what is behind x lets the root of a place within a slot be -/
def RootOk (G : Sig) (cl : Cl) (x : Ex) (L : LK) : Prop := ∀ r r' q P d, x.ev G cl r = some (.sn q P d, r') → L q = true
variable {r r' r1 r2 : Env} {p p' p1 p2 : Nat → List Addr} {S S' S1 S2 H H' H1 H2 : Hp} {F F1 F2 : List Addr} {s : St} {Q : VK}
theorem rep_bl {K : PySem.W.Frag} {b : Bool} {v : V} (h : Rep K cA S H (.bl b) v F) : v = .bl b ∧ F = [] := by
  cases h
  exact ⟨rfl, rfl⟩
theorem gets1 {e : Env} {x : R} {ds : List D} (h : gets e [x] = some ds) : ∃ d, x.get e = some d ∧ ds = [d] := by
  simp only [gets] at h
  split at h
  · rename_i d ds' h1 h2
    cases h2; cases h
    exact ⟨d, h1, rfl⟩
  · cases h
theorem prim1_inv {q : P} {a : Ex} {x : R} (h : (Ex.prim q (Exs.of [a])).ev G cl r = some (x, r')) : ∃ ra da d, a.ev G cl r = some (ra, r') ∧ ra.get r' = some da ∧ q.ev [da] = some d ∧ x = .tm d := by
  simp only [Ex.ev, Exs.of, Exs.ev] at h
  split at h
  · rename_i rs e1 h1
    split at h1
    · rename_i ra e0 h0
      cases h1
      split at h
      · rename_i ds hg
        obtain ⟨da, h2, rfl⟩ := gets1 hg
        split at h
        · rename_i d hd
          cases h
          exact ⟨ra, da, d, h0, h2, hd, rfl⟩
        · cases h
      · cases h
    · cases h1
  · cases h
theorem prim2_inv {q : P} {a b : Ex} {x : R} (h : (Ex.prim q (Exs.of [a, b])).ev G cl r = some (x, r')) : ∃ ra r1 rb ds d, a.ev G cl r = some (ra, r1) ∧ b.ev G cl r1 = some (rb, r') ∧ gets r' [ra, rb] = some ds ∧ q.ev ds = some d ∧ x = .tm d := by
  simp only [Ex.ev, Exs.of, Exs.ev] at h
  split at h
  · rename_i rs e1 h1
    split at h1
    · rename_i ra e0 h0
      split at h1
      · rename_i rs' e2 h2
        split at h2
        · rename_i rb e3 h3
          cases h2; cases h1
          split at h
          · rename_i ds hg
            split at h
            · rename_i d hd
              cases h
              exact ⟨ra, _, rb, ds, d, h0, h3, hg, hd, rfl⟩
            · cases h
          · cases h
        · cases h2
      · cases h1
    · cases h1
  · cases h
/-- a two-place operation -/
theorem bin_of {o : P} {a b : Ex} (hl : ∀ i, L i = true → Lb i = true) (root : RootOk G cl a Lb) (h : tX X.K cA L (fun r => (Ex.prim o (Exs.of [a, b])).ev G cl r) s H Q) :
    tOp (rP2 X cA o) (tX X.K cA L fun r => a.ev G cl r) (tX X.K cA Lb fun r => b.ev G cl r) s H Q := by
  obtain ⟨S, r, p, x, r', st, e, k⟩ := h
  obtain ⟨ra, r1, rb, ds, d, h1, h2, h3, h4, rfl⟩ := prim2_inv e
  exact seq2 st h1 h2 (fun q P d e => root _ _ q P d (by rw [h1, e])) hl fun x y S2 H2 p2 F st2 rr ef => ⟨S2, ds, d, st2.sub, RReps.gets st2 rr h3, h4, Pr.fin st2 ef k⟩
theorem un_of {o : P} {a : Ex} (h : tX X.K cA L (fun r => (Ex.prim o (Exs.of [a])).ev G cl r) s H Q) : tX X.K cA L (fun r => a.ev G cl r) s H (fun x H1 => rP X cA o [x] H1 Q) := by
  obtain ⟨S, r, p, x, r', st, e, k⟩ := h
  obtain ⟨ra, da, d, h1, h2, h3, rfl⟩ := prim1_inv e
  refine ⟨S, r, p, ra, r', st, h1, fun x S1 H1 p1 F1 st1 rr ef => ?_⟩
  obtain ⟨W, rp⟩ := RRep.get st1 rr h2
  exact ⟨S1, [da], d, st1.sub, .cons ⟨W, rp⟩ .nil, h3, Pr.fin st1 ef k⟩
theorem e_bin {op : Operator} {o : P} {a b : Expr} {xa xb : Ex} {pos : Pos} (ho : OpR X (binaryOp op) (rP2 X cA o)) (ha : OkE X cA G cl L a xa) (hb : OkE X cA G cl Lb b xb) (hl : ∀ i, L i = true → Lb i = true) (root : RootOk G cl xa Lb) :
    OkE X cA G cl L (.BinOp a op b pos) (.prim o (Exs.of [xa, xb])) := PE.imp (pe_op ho ha hb) fun s H Q h => bin_of hl root h
theorem e_cmp {op : CmpOp} {o : P} {a b : Expr} {xa xb : Ex} {pos : Pos} (ho : OpR X (compareOp op) (rP2 X cA o)) (hm : behindInMarks op b = false) (ha : OkE X cA G cl L a xa) (hb : OkE X cA G cl Lb b xb) (hl : ∀ i, L i = true → Lb i = true) (root : RootOk G cl xa Lb) :
    OkE X cA G cl L (.Compare a [op] [b] pos) (.prim o (Exs.of [xa, xb])) := PE.imp (pe_cmpR ho ha hb hm) fun s H Q h => bin_of hl root h
/-- a reading as a test, from the value's -/
theorem test_of {x : Ex} (h : tT X.K cA L (tb1 G cl x) s H Q2) : tX X.K cA L (fun r => x.ev G cl r) s H (fun v H1 => ∃ k, v = .bl k ∧ Q2 k H1) := by
  obtain ⟨S, r, p, b, r', st, e, k⟩ := h
  simp only [tb1] at e
  cases he : x.ev G cl r with
  | none => rw [he] at e; cases e
  | some y =>
    obtain ⟨y, r2⟩ := y
    rw [he] at e
    refine ⟨S, r, p, y, r2, st, he, fun v S' H' p' F st' rr ef => ?_⟩
    cases y with
    | sl i =>
      simp only [bool1] at e
      split at e
      · rename_i b' hb
        cases e
        obtain ⟨w, h1, rp⟩ := st'.rep i _ hb
        rw [rr.1] at h1; cases h1
        obtain ⟨rfl, _⟩ := rep_bl rp
        exact ⟨_, rfl, k S' H' p' st' (ef.drop fun a ha => absurd ha (by simp))⟩
      · cases e
    | tm d =>
      cases d with
      | bl b' =>
        cases e
        obtain ⟨rp, _⟩ := rr
        cases rp
        exact ⟨_, rfl, k S' H' p' st' (ef.drop fun a ha => absurd ha (by simp))⟩
      | _ => simp [bool1] at e
    | sn q P d => simp [bool1] at e
theorem t_val {e : Expr} {x : Ex} (h : OkE X cA G cl L e x) (he : ∀ whole, isTrue e X.env whole = (do let v ← whole; standAt e.pos; holding [v] (truthy v))) : OkT X cA G cl L e x := PT.imp (pt_val h he) fun s H Q q => test_of q
theorem t_cmp {op : CmpOp} {o : P} {a b : Expr} {xa xb : Ex} {pos : Pos} (ho : OpR X (compareOp op) (rP2 X cA o)) (hm : behindInMarks op b = false) (ha : OkE X cA G cl L a xa) (hb : OkE X cA G cl Lb b xb) (hl : ∀ i, L i = true → Lb i = true) (root : RootOk G cl xa Lb) :
    OkT X cA G cl L (.Compare a [op] [b] pos) (.prim o (Exs.of [xa, xb])) := PT.imp (pt_cmpR ho ha hb hm) fun s H Q h => bin_of hl root (test_of h)
theorem e_isn {a : Expr} {xa : Ex} {k pos pos'} (ha : OkE X cA G cl L a xa) : OkE X cA G cl L (.Compare a [.Is] [.Constant .none k pos'] pos) (.prim .isn (Exs.of [xa])) :=
  PE.imp (pe_cmpR o_isn ha pe_non (nomark _)) fun s H Q h => by
    show tX X.K cA L (fun r => xa.ev G cl r) s H (fun x H1 => V.non = V.non ∧ rP X cA .isn [x] H1 Q)
    simpa using un_of h
theorem t_isn {a : Expr} {xa : Ex} {k pos pos'} (ha : OkE X cA G cl L a xa) : OkT X cA G cl L (.Compare a [.Is] [.Constant .none k pos'] pos) (.prim .isn (Exs.of [xa])) :=
  PT.imp (pt_cmpR o_isn ha pe_non (nomark _)) fun s H Q h => by
    show tX X.K cA L (fun r => xa.ev G cl r) s H (fun x H1 => V.non = V.non ∧ rP X cA .isn [x] H1 _)
    simpa using un_of (test_of h)
theorem e_notn {a : Expr} {xa : Ex} {k pos pos'} (ha : OkE X cA G cl L a xa) : OkE X cA G cl L (.Compare a [.IsNot] [.Constant .none k pos'] pos) (.prim .notn (Exs.of [xa])) :=
  PE.imp (pe_cmpR o_notn ha pe_non (nomark _)) fun s H Q h => by
    show tX X.K cA L (fun r => xa.ev G cl r) s H (fun x H1 => V.non = V.non ∧ rP X cA .notn [x] H1 Q)
    simpa using un_of h
theorem t_notn {a : Expr} {xa : Ex} {k pos pos'} (ha : OkE X cA G cl L a xa) : OkT X cA G cl L (.Compare a [.IsNot] [.Constant .none k pos'] pos) (.prim .notn (Exs.of [xa])) :=
  PT.imp (pt_cmpR o_notn ha pe_non (nomark _)) fun s H Q h => by
    show tX X.K cA L (fun r => xa.ev G cl r) s H (fun x H1 => V.non = V.non ∧ rP X cA .notn [x] H1 _)
    simpa using un_of (test_of h)
theorem e_neg {a : Expr} {xa : Ex} {pos} (ha : OkE X cA G cl L a xa) : OkE X cA G cl L (.UnaryOp .USub a pos) (.prim .neg (Exs.of [xa])) := PE.imp (pe_un o_neg ha) fun s H Q h => un_of h
/-! ### not, and, or -/
theorem nott_inv {a : Ex} {x : R} (h : (Ex.nott a).ev G cl r = some (x, r')) : ∃ b, bool1 (a.ev G cl r) = some (b, r') ∧ x = .tm (.bl !b) := by
  simp only [Ex.ev] at h
  split at h
  · rename_i b e1 hb
    cases h
    exact ⟨b, hb, rfl⟩
  · cases h
theorem rbl {K : PySem.W.Frag} (b : Bool) : RRep K cA S H r s p (.tm (.bl b)) (.bl b) [] := ⟨.bl b, Tmp.nil⟩
theorem e_nott {a : Expr} {xa : Ex} {pos} (ha : OkE X cA G cl L a xa) : OkE X cA G cl L (.UnaryOp .Not a pos) (.nott xa) := by
  refine PE.imp (pe_not ha) fun s H Q ⟨S, r, p, x, r', st, e, k⟩ => ?_
  obtain ⟨b, hb, rfl⟩ := nott_inv e
  exact test_of (Q2 := fun c H1 => Q (.bl (!c)) H1) ⟨S, r, p, b, r', st, hb, fun S' H' p' st' ef => k _ S' H' p' [] st' (rbl _) ef⟩
theorem t_nott {a : Expr} {xa : Ex} {pos} (ha : OkT X cA G cl L a xa) : OkT X cA G cl L (.UnaryOp .Not a pos) (.nott xa) := by
  refine PT.imp (pt_not ha) fun s H Q ⟨S, r, p, b, r', st, e, k⟩ => ?_
  simp only [tb1] at e
  cases he : (Ex.nott xa).ev G cl r with
  | none => rw [he] at e; cases e
  | some y =>
    obtain ⟨y, r2⟩ := y
    obtain ⟨b', hb, rfl⟩ := nott_inv he
    rw [he] at e
    cases e
    exact ⟨S, r, p, b', _, st, hb, k⟩
theorem and_inv {a b : Ex} {x : R} (h : (Ex.ands a b).ev G cl r = some (x, r')) : (bool1 (a.ev G cl r) = some (false, r') ∧ x = .tm (.bl false)) ∨ ∃ r1 k, bool1 (a.ev G cl r) = some (true, r1) ∧ bool1 (b.ev G cl r1) = some (k, r') ∧ x = .tm (.bl k) := by
  simp only [Ex.ev] at h
  split at h
  · rename_i e1 hb
    split at h
    · rename_i k e2 hb2
      cases h
      exact .inr ⟨_, k, hb, hb2, rfl⟩
    · cases h
  · rename_i e1 hb
    cases h
    exact .inl ⟨hb, rfl⟩
  · cases h
theorem or_inv {a b : Ex} {x : R} (h : (Ex.ors a b).ev G cl r = some (x, r')) : (bool1 (a.ev G cl r) = some (true, r') ∧ x = .tm (.bl true)) ∨ ∃ r1 k, bool1 (a.ev G cl r) = some (false, r1) ∧ bool1 (b.ev G cl r1) = some (k, r') ∧ x = .tm (.bl k) := by
  simp only [Ex.ev] at h
  split at h
  · rename_i e1 hb
    split at h
    · rename_i k e2 hb2
      cases h
      exact .inr ⟨_, k, hb, hb2, rfl⟩
    · cases h
  · rename_i e1 hb
    cases h
    exact .inl ⟨hb, rfl⟩
  · cases h
theorem and_of {a b : Ex} {Q : Bool → Hp → Prop} (h : tT X.K cA L (tb1 G cl (.ands a b)) s H Q) : tAnd (tT X.K cA L (tb1 G cl a)) (tT X.K cA L (tb1 G cl b)) s H Q := by
  obtain ⟨S, r, p, c, r', st, e, k⟩ := h
  simp only [tb1] at e
  cases he : (Ex.ands a b).ev G cl r with
  | none => rw [he] at e; cases e
  | some y =>
    obtain ⟨y, r2⟩ := y
    rw [he] at e
    rcases and_inv he with ⟨h1, rfl⟩ | ⟨r1, k', h1, h2, rfl⟩
    · cases e
      exact ⟨S, r, p, false, _, st, h1, fun S' H' p' st' ef => iteF (k S' H' p' st' ef)⟩
    · cases e
      refine ⟨S, r, p, true, r1, st, h1, fun S' H' p' st' ef => ?_⟩
      refine iteT ?_
      exact ⟨S', _, p', _, _, st', h2, fun S2 H2 p2 st2 ef2 => k S2 H2 p2 st2 (by simpa using ef.trans ef2)⟩
theorem or_of {a b : Ex} {Q : Bool → Hp → Prop} (h : tT X.K cA L (tb1 G cl (.ors a b)) s H Q) : tOr (tT X.K cA L (tb1 G cl a)) (tT X.K cA L (tb1 G cl b)) s H Q := by
  obtain ⟨S, r, p, c, r', st, e, k⟩ := h
  simp only [tb1] at e
  cases he : (Ex.ors a b).ev G cl r with
  | none => rw [he] at e; cases e
  | some y =>
    obtain ⟨y, r2⟩ := y
    rw [he] at e
    rcases or_inv he with ⟨h1, rfl⟩ | ⟨r1, k', h1, h2, rfl⟩
    · cases e
      exact ⟨S, r, p, true, _, st, h1, fun S' H' p' st' ef => iteT (k S' H' p' st' ef)⟩
    · cases e
      refine ⟨S, r, p, false, r1, st, h1, fun S' H' p' st' ef => ?_⟩
      refine iteF ?_
      exact ⟨S', _, p', _, _, st', h2, fun S2 H2 p2 st2 ef2 => k S2 H2 p2 st2 (by simpa using ef.trans ef2)⟩
theorem andv_of {a b : Ex} (h : tX X.K cA L (fun r => (Ex.ands a b).ev G cl r) s H Q) (hb : ∀ s H Q, tT X.K cA L (tb1 G cl b) s H (fun k H1 => Q (.bl k) H1) → tb' s H Q) : tAndV (tX X.K cA L fun r => a.ev G cl r) tb' s H Q := by
  obtain ⟨S, r, p, c, r', st, e, k⟩ := h
  refine test_of (Q2 := fun c H1 => if c = true then tb' s H1 Q else Q (.bl false) H1) ?_
  rcases and_inv e with ⟨h1, rfl⟩ | ⟨r1, k', h1, h2, rfl⟩
  · exact ⟨S, r, p, false, r', st, h1, fun S' H' p' st' ef => iteF (k _ S' H' p' [] st' (rbl _) ef)⟩
  · refine ⟨S, r, p, true, r1, st, h1, fun S' H' p' st' ef => ?_⟩
    refine iteT ?_
    exact hb _ _ _ ⟨S', r1, p', k', r', st', h2, fun S2 H2 p2 st2 ef2 => k _ S2 H2 p2 [] st2 (rbl _) (by simpa using ef.trans ef2)⟩
theorem orv_of {a b : Ex} (h : tX X.K cA L (fun r => (Ex.ors a b).ev G cl r) s H Q) (hb : ∀ s H Q, tT X.K cA L (tb1 G cl b) s H (fun k H1 => Q (.bl k) H1) → tb' s H Q) : tOrV (tX X.K cA L fun r => a.ev G cl r) tb' s H Q := by
  obtain ⟨S, r, p, c, r', st, e, k⟩ := h
  refine test_of (Q2 := fun c H1 => if c = true then Q (.bl true) H1 else tb' s H1 Q) ?_
  rcases or_inv e with ⟨h1, rfl⟩ | ⟨r1, k', h1, h2, rfl⟩
  · exact ⟨S, r, p, true, r', st, h1, fun S' H' p' st' ef => iteT (k _ S' H' p' [] st' (rbl _) ef)⟩
  · refine ⟨S, r, p, false, r1, st, h1, fun S' H' p' st' ef => ?_⟩
    refine iteF ?_
    exact hb _ _ _ ⟨S', r1, p', k', r', st', h2, fun S2 H2 p2 st2 ef2 => k _ S2 H2 p2 [] st2 (rbl _) (by simpa using ef.trans ef2)⟩
/-- a truth from a value's reading, whatever it is handed on as -/
theorem btail {x : Ex} (h : tT X.K cA L (tb1 G cl x) s H (fun k H1 => Q (.bl k) H1)) : tX X.K cA L (fun r => x.ev G cl r) s H Q := by
  obtain ⟨S, r, p, y, r', st, e, k⟩ := test_of h
  exact ⟨S, r, p, y, r', st, e, fun v S' H' p' F st' rr ef => by obtain ⟨b, rfl, q⟩ := k v S' H' p' F st' rr ef; exact q⟩
/-! ### argument lists -/
theorem a_nil : OkA X cA G cl L [] .nil := PA.imp pa_nil fun s H Q ⟨S, r, p, xs, r', st, e, k⟩ => by
  cases e
  exact k [] S H p [] st .nil Eff.refl
theorem starEach_cons {e : Expr} {es : List Expr} {env : PySem.Env} (h : noStar e = true) : starEach (e :: es) env = (false, eval e env) :: starEach es env := by
  cases e <;> first | rfl | cases h
theorem a_cons {e : Expr} {es : List Expr} {x : Ex} {xs : Exs} (hs : noStar e = true) (ha : OkE X cA G cl L e x) (hr : OkA X cA G cl Lb es xs) (hl : ∀ i, L i = true → Lb i = true) (root : RootOk G cl x Lb) : OkA X cA G cl L (e :: es) (.cons x xs) := by
  refine PA.imp (pa_cons ha hr (starEach_cons hs)) fun s H Q ⟨S, r, p, ys, r', st, e, k⟩ => ?_
  simp only [Exs.ev] at e
  split at e
  · rename_i y r1 h1
    split at e
    · rename_i ys' r2 h2
      cases e
      refine ⟨S, r, p, y, _, st, h1, fun v S1 H1 p1 F1 st1 rr1 e1 => ⟨S1, _, p1, ys', _, st1, h2, fun vs S2 H2 p2 F2 st2 rr2 e2 => ?_⟩⟩
      obtain ⟨c1, c2⟩ := RRep.carry st1 rr1 e2 fun q P d e => root _ _ q P d (by rw [h1, e])
      exact k _ S2 H2 p2 (F1 ++ F2) st2 (.cons c1 rr2 c2) (e1.trans (e2.weak hl))
    · cases e
  · cases e
/-- things of their own, together -/
theorem RReps.tms {K : PySem.W.Frag} {xs : List R} {vs : List V} {ds : List D} (rr : RReps K cA S H r s p xs vs F) (h : tms xs = some ds) : Reps K cA S H ds vs F ∧ Tmp S p F := by
  induction rr generalizing ds with
  | nil => cases h; exact ⟨.nil, Tmp.nil⟩
  | @cons x v F xs vs F2 h1 hs dj ih =>
    cases x with
    | tm d =>
      simp only [TK.tms, Option.map_eq_some_iff] at h
      obtain ⟨ds', h2, rfl⟩ := h
      obtain ⟨i1, i2⟩ := ih h2
      refine ⟨.cons h1.1 i1, List.nodup_append.mpr ⟨h1.2.nd, i2.nd, fun a ha b hb e => dj a ha (e ▸ hb)⟩, fun i a q ha => (List.mem_append.mp ha).elim (h1.2.dj i a q) (i2.dj i a q), fun a ha => (List.mem_append.mp ha).elim (h1.2.own a) (i2.own a)⟩
    | sl i => cases h
    | sn q P d => cases h
theorem e_tup {es : List Expr} {xs : Exs} {k pos} (h : OkA X cA G cl L es xs) : OkE X cA G cl L (.Tuple es k pos) (.tup xs) := by
  refine PE.imp (pe_tup h) fun s H Q ⟨S, r, p, y, r', st, e, k⟩ => ?_
  simp only [Ex.ev] at e
  split at e
  · rename_i rs e1 h1
    split at e
    · rename_i ds h2
      split at e
      · rename_i hl
        cases e
        refine ⟨S, r, p, rs, _, st, h1, fun vs S1 H1 p1 F1 st1 rr ef => ?_⟩
        obtain ⟨rp, tm⟩ := RReps.tms rr h2
        refine ⟨by rw [← Reps.length rp, sizeLine_eq]; exact hl, fun a ha => ?_⟩
        have sn : S1 a = none := by
          cases z : S1 a with
          | none => rfl
          | some o => rw [st1.sub a o z] at ha; cases ha
        have hs : Sub S1 (upd S1 a (.tup vs)) := fun b o e => by rw [upd_ne (ne_of_none e sn)]; exact e
        have hh : Same H1 (upd H1 a (.tup vs)) := fun b o e => by rw [upd_ne (ne_of_none e ha)]; exact e
        have cap : ∀ b o, upd S1 a (.tup vs) b = some o → S1 b = some o ∨ H1 b = none := fun b o e => by
          by_cases z : b = a
          · subst z; exact .inr ha
          · rw [upd_ne z] at e; exact .inl e
        have sub : Sub (upd S1 a (.tup vs)) (upd H1 a (.tup vs)) := fun b o e => by
          by_cases z : b = a
          · subst z; rw [upd_same] at e ⊢; exact e
          · rw [upd_ne z] at e ⊢; exact st1.sub b o e
        have th := Reps.there ds rp
        have na : a ∉ F1 := fun z => by obtain ⟨o, e⟩ := th a z; rw [ha] at e; cases e
        refine k _ (upd S1 a (.tup vs)) (upd H1 a (.tup vs)) p1 F1 (st1.ext hs hh cap sub) ⟨.tup upd_same (Reps.mono hs ds rp fun b hb => ?_), tm.nd, tm.dj, fun b hb => ?_⟩ ?_
        · rw [upd_ne fun z => na (by rw [← z]; exact hb)]
        · rw [upd_ne fun z => na (by rw [← z]; exact hb)]; exact tm.own b hb
        · simpa using ef.trans (Eff.ext (F := []) hs hh cap fun a ha => absurd ha (by simp))
      · cases e
    · cases e
  · cases e
theorem e_lst {es : List Expr} {xs : Exs} {pos} (h : OkA X cA G cl L es xs) : OkE X cA G cl L (.List es pos) (.lst xs) := by
  refine PE.imp (pe_lst h) fun s H Q ⟨S, r, p, y, r', st, e, k⟩ => ?_
  simp only [Ex.ev] at e
  split at e
  · rename_i rs e1 h1
    split at e
    · rename_i ds h2
      split at e
      · rename_i hl
        cases e
        refine ⟨S, r, p, rs, _, st, h1, fun vs S1 H1 p1 F1 st1 rr ef => ?_⟩
        obtain ⟨rp, tm⟩ := RReps.tms rr h2
        refine ⟨by rw [← Reps.length rp, sizeLine_eq]; exact hl, fun a ha => ?_⟩
        have sn : S1 a = none := by
          cases z : S1 a with
          | none => rfl
          | some o => rw [st1.sub a o z] at ha; cases ha
        have hh : Same H1 (upd H1 a (.lst vs)) := fun b o e => by rw [upd_ne (ne_of_none e ha)]; exact e
        have th := Reps.there ds rp
        have na : a ∉ F1 := fun z => by obtain ⟨o, e⟩ := th a z; rw [ha] at e; cases e
        refine k _ S1 (upd H1 a (.lst vs)) p1 (a :: F1) (st1.ext (fun _ _ e => e) hh (fun _ _ e => .inl e) fun b o e => hh b o (st1.sub b o e)) ⟨.ow (by decide) upd_same rfl (Reps.mono (fun _ _ e => e) ds rp fun b hb => ?_), List.nodup_cons.mpr ⟨na, tm.nd⟩, fun i b q hb => ?_, fun b hb => ?_⟩ ?_
        · rw [upd_ne fun z => na (by rw [← z]; exact hb)]
        · rcases List.mem_cons.mp hb with rfl | hb
          · obtain ⟨o, e⟩ := st1.there q; rw [ha] at e; cases e
          · exact tm.dj i b q hb
        · rcases List.mem_cons.mp hb with rfl | hb
          · exact sn
          · exact tm.own b hb
        · refine (ef.trans (Eff.ext (F := [a]) (fun _ _ e => e) hh (fun _ _ e => .inl e) fun b hb => ?_)).drop fun b hb => ?_
          · have : b = a := by simpa using hb
            subst this; exact ha
          · rcases List.mem_cons.mp hb with rfl | hb
            · exact List.mem_append_right _ (by simp)
            · exact List.mem_append_left _ hb
      · cases e
    · cases e
  · cases e
end
end TK
/-! TK, part 10: places, chains, slices. Own work. -/
namespace TK
open PySem L2
section
variable {X : Cx} {cA : Nat → Addr} {G : Sig} {cl : Cl} {L Lb Lc : LK}
variable {r r' r1 r2 r3 : Env} {p p' p1 p2 : Nat → List Addr} {S S' S1 S2 H H' H1 H2 : Hp} {F F1 F2 : List Addr} {s : St} {Q : VK}
/-- an item's thing: of its own, or a place within a slot -/
def ItR (r x : R) (j : Nat) (d : D) : Prop := (d.fz = true ∧ x = .tm d) ∨ (d.fz = false ∧ ((∃ q, r = .sl q ∧ x = .sn q [j] d) ∨ (∃ q P d', r = .sn q P d' ∧ x = .sn q (P ++ [j]) d) ∨ (∃ d', r = .tm d' ∧ x = .tm d)))
theorem itR_of {r x : R} {j : Nat} {d : D} (h : (if d.fz then some (.tm d) else match r with
          | .sl q => some (.sn q [j] d)
          | .sn q p _ => some (.sn q (p ++ [j]) d)
          | .tm _ => some (.tm d)) = some x) : ItR r x j d := by
  split at h
  · rename_i hf
    cases h
    exact .inl ⟨hf, rfl⟩
  · rename_i hf
    refine .inr ⟨by simpa using hf, ?_⟩
    cases r with
    | sl q => cases h; exact .inl ⟨q, rfl, rfl⟩
    | sn q P d' => cases h; exact .inr (.inl ⟨q, P, d', rfl, rfl⟩)
    | tm d' => cases h; exact .inr (.inr ⟨d', rfl, rfl⟩)
theorem ixD_cases {r x : R} {k d0 : D} (h : ixD r k d0 = some x) : ∃ kd o xs j d, d0 = .nd kd o xs ∧ dctIx kd k = some (some j) ∧ xs[j]? = some d ∧ ItR r x j d := by
  unfold ixD at h
  split at h
  · rename_i kd o xs
    split at h
    · rename_i j hj
      split at h
      · rename_i d hd
        exact ⟨kd, o, xs, j, d, rfl, hj, hd, itR_of h⟩
      · cases h
    · cases h
  · cases h
theorem ixR_cases {e : Env} {r x : R} {k : D} (h : ixR e r k = some x) :
    (∃ z i c, r.get e = some (.str z) ∧ k = .int i ∧ z.length ≤ sLine ∧ atI z.cps.toList i = some c ∧ x = .tm (.str ⟨#[c]⟩)) ∨
    (∃ d0 i xs j d, r.get e = some d0 ∧ k = .int i ∧ asSeq d0 = some xs ∧ ixN xs.length i = some j ∧ xs[j]? = some d ∧ ItR r x j d) ∨
    (∃ kd o xs j d, r.get e = some (.nd kd o xs) ∧ dctIx kd k = some (some j) ∧ xs[j]? = some d ∧ ItR r x j d) := by
  unfold ixR at h
  split at h
  · rename_i z i hg
    split at h
    · rename_i hl
      split at h
      · rename_i j hj
        split at h
        · rename_i c hc
          cases h
          exact .inl ⟨z, i, c, hg, rfl, hl, by unfold atI; rw [show ixN z.cps.toList.length i = some j from hj]; exact hc, rfl⟩
        · cases h
      · cases h
    · cases h
  · rename_i d0 i hn hg
    split at h
    · rename_i xs hx
      split at h
      · rename_i j hj
        split at h
        · rename_i d hd
          exact .inr (.inl ⟨d0, i, xs, j, d, hg, rfl, hx, hj, hd, itR_of h⟩)
        · cases h
      · cases h
    · obtain ⟨kd, o, xs, j, d, rfl, h1, h2, h3⟩ := ixD_cases h
      exact .inr (.inr ⟨kd, o, xs, j, d, hg, h1, h2, h3⟩)
  · rename_i d0 hg _ _
    obtain ⟨kd, o, xs, j, d, rfl, h1, h2, h3⟩ := ixD_cases h
    exact .inr (.inr ⟨kd, o, xs, j, d, hg, h1, h2, h3⟩)
  · cases h
theorem ix_inv {a b : Ex} {x : R} (h : (Ex.ix a b).ev G cl r = some (x, r')) : ∃ ra r1 rb kd, a.ev G cl r = some (ra, r1) ∧ b.ev G cl r1 = some (rb, r') ∧ rb.get r' = some kd ∧ ixR r' ra kd = some x := by
  simp only [Ex.ev] at h
  split at h
  · rename_i ra r1 h1
    split at h
    · rename_i rb r2 h2
      split at h
      · rename_i kd hk
        split at h
        · rename_i x' hx
          cases h
          exact ⟨ra, r1, rb, kd, h1, h2, hk, hx⟩
        · cases h
      · cases h
    · cases h
  · cases h
theorem fldR_cases {fl : Nat → Str → Bool} {e : Env} {r x : R} {n : Str} (h : fldR fl e r n = some x) :
    ∃ c ns o xs j d, r.get e = some (.nd (.ins c ns) o xs) ∧ fl c n = true ∧ ns.findIdx? (· = n) = some j ∧ xs[j]? = some d ∧
      ((d.fz = true ∧ x = .tm d) ∨ (d.fz = false ∧ ((∃ q, r = .sl q ∧ x = .sn q [j] d) ∨ (∃ q P d', r = .sn q P d' ∧ x = .sn q (P ++ [j]) d) ∨ (∃ d', r = .tm d' ∧ x = .tm d)))) := by
  unfold fldR at h
  split at h
  · rename_i c ns o xs hg
    split at h
    · rename_i hf
      split at h
      · rename_i j hj
        split at h
        · rename_i d hd
          refine ⟨c, ns, o, xs, j, d, hg, hf, hj, hd, ?_⟩
          split at h
          · rename_i hz
            cases h
            exact .inl ⟨hz, rfl⟩
          · rename_i hz
            refine .inr ⟨by simpa using hz, ?_⟩
            cases r with
            | sl q => cases h; exact .inl ⟨q, rfl, rfl⟩
            | sn q P d' => cases h; exact .inr (.inl ⟨q, P, d', rfl, rfl⟩)
            | tm d' => cases h; exact .inr (.inr ⟨d', rfl, rfl⟩)
        · cases h
      · cases h
    · cases h
  · cases h
theorem fld_inv {a : Ex} {n : Str} {x : R} (h : (Ex.fld a n).ev G cl r = some (x, r')) : ∃ ra, a.ev G cl r = some (ra, r') ∧ fldR G.flds r' ra n = some x := by
  simp only [Ex.ev] at h
  split at h
  · rename_i ra r1 h1
    split at h
    · rename_i x' hx
      cases h
      exact ⟨ra, h1, hx⟩
    · cases h
  · cases h
/-- whose slot it is, or within whose -/
theorem rootX_ok : ∀ (x : Ex) (r : Env) (y : R) (r' : Env), x.ev G cl r = some (y, r') → (∀ q, y = .sl q → x = .pk q) ∧ (∀ q P d, y = .sn q P d → rootX x = some q)
  | .con _, _, _, _, h => by simp only [Ex.ev] at h; cases h; simp
  | .glo _, _, _, _, h => by simp only [Ex.ev] at h; (repeat' split at h) <;> cases h; simp
  | .var _, _, _, _, h => by simp only [Ex.ev] at h; (repeat' split at h) <;> cases h; simp
  | .mv _, _, _, _, h => by simp only [Ex.ev] at h; (repeat' split at h) <;> cases h; simp
  | .kix _ _, _, _, _, h => by simp only [Ex.ev] at h; (repeat' split at h) <;> cases h; simp
  | .dlit _, _, _, _, h => by simp only [Ex.ev] at h; cases h; simp
  | .vz _, _, _, _, h => by simp only [Ex.ev] at h; (repeat' split at h) <;> cases h; simp
  | .pk _, _, _, _, h => by simp only [Ex.ev] at h; (repeat' split at h) <;> cases h; simp
  | .cs _ _, _, _, _, h => by simp only [Ex.ev] at h; (repeat' split at h) <;> cases h <;> simp
  | .prim _ _, _, _, _, h => by simp only [Ex.ev] at h; (repeat' split at h) <;> cases h; simp
  | .ix a b, r, y, r', h => by
    obtain ⟨ra, r1, rb, kd, h1, h2, h3, h4⟩ := ix_inv h
    have ih := rootX_ok a r ra r1 h1
    have it : ∀ j d, ItR ra y j d → (∀ q, y = .sl q → (Ex.ix a b) = .pk q) ∧ (∀ q P d, y = .sn q P d → rootX (Ex.ix a b) = some q) := fun j d h => by
      rcases h with ⟨_, rfl⟩ | ⟨_, ⟨q, e, rfl⟩ | ⟨q, P, d', e, rfl⟩ | ⟨d', e, rfl⟩⟩
      · simp
      · exact ⟨fun q' z => by simp at z, fun q' P' d' z => by cases z; rw [rootX, ih.1 _ e]; rfl⟩
      · exact ⟨fun q' z => by simp at z, fun q' P' d' z => by cases z; exact ih.2 _ _ _ e⟩
      · simp
    rcases ixR_cases h4 with ⟨z, i, c, _, _, _, _, rfl⟩ | ⟨d0, i, xs, j, d, _, _, _, _, _, h⟩ | ⟨kd, o, xs, j, d, _, _, _, h⟩
    · simp
    · exact it _ _ h
    · exact it _ _ h
  | .fld a n, r, y, r', h => by
    obtain ⟨ra, h1, h4⟩ := fld_inv h
    have ih := rootX_ok a r ra r' h1
    obtain ⟨_, _, _, _, _, _, _, _, _, _, ⟨_, rfl⟩ | ⟨_, ⟨q, e, rfl⟩ | ⟨q, P, d', e, rfl⟩ | ⟨d', e, rfl⟩⟩⟩ := fldR_cases h4
    · simp
    · exact ⟨fun q' z => by simp at z, fun q' P' d' z => by cases z; rw [rootX, ih.1 _ e]; rfl⟩
    · exact ⟨fun q' z => by simp at z, fun q' P' d' z => by cases z; exact ih.2 _ _ _ e⟩
    · simp
  | .tup _, _, _, _, h => by simp only [Ex.ev] at h; (repeat' split at h) <;> cases h; simp
  | .lst _, _, _, _, h => by simp only [Ex.ev] at h; (repeat' split at h) <;> cases h; simp
  | .nott _, _, _, _, h => by simp only [Ex.ev] at h; (repeat' split at h) <;> cases h; simp
  | .ands _ _, _, _, _, h => by simp only [Ex.ev] at h; (repeat' split at h) <;> cases h <;> simp
  | .ors _ _, _, _, _, h => by simp only [Ex.ev] at h; (repeat' split at h) <;> cases h <;> simp
  | .ite _ _ _, _, _, _, h => by
    simp only [Ex.ev] at h
    split at h
    · obtain ⟨p, _, e⟩ := Option.map_eq_some_iff.mp h; cases e; simp
    · obtain ⟨p, _, e⟩ := Option.map_eq_some_iff.mp h; cases e; simp
    · cases h
  | .chain _ _ _ _ _, _, _, _, h => by simp only [Ex.ev] at h; (repeat' split at h) <;> cases h <;> simp
  | .call _ _ _, _, _, _, h => by simp only [Ex.ev] at h; (repeat' split at h) <;> cases h; simp
  | .meth _ _ _, _, _, _, h => by simp only [Ex.ev] at h; (repeat' split at h) <;> cases h; simp
  | .new _ _, _, _, _, h => by simp only [Ex.ev] at h; (repeat' split at h) <;> cases h <;> simp
  | .mut _ _ _, _, _, _, h => by simp only [Ex.ev] at h; (repeat' split at h) <;> cases h; simp
  | .lc _ _ _ _, _, _, _, h => by simp only [Ex.ev] at h; (repeat' split at h) <;> cases h; simp
def Cf.lks (c : Cf) : LK := fun i => c.lock.contains i
theorem lk_mono (c : Cf) (x : Ex) : ∀ i, c.lks i = true → (c.lk x).lks i = true := by
  intro i h
  cases x <;> simp only [Cf.lk] <;> first | exact h | (split <;> first | exact h | (simp only [Cf.lks, List.contains_cons] at h ⊢; rw [h, Bool.or_true]))
theorem root_ok (c : Cf) (x : Ex) : RootOk G cl x (c.lk x).lks := by
  intro r r' q P d h
  have z := (rootX_ok x r _ r' h).2 q P d rfl
  cases x <;> simp only [rootX] at z <;> first | cases z | skip
  · simp [Ex.ev] at h
    split at h <;> cases h
  · rename_i a b
    simp only [Cf.lk, z, Cf.lks]
    simp
  · rename_i a n
    simp only [Cf.lk, z, Cf.lks]
    simp
theorem AtP.snoc {d0 d x : D} {v0 v w : V} {P : List Nat} {j : Nat} (h : AtP cA S H d0 v0 P d v) (g : AtP cA S H d v [j] x w) : AtP cA S H d0 v0 (P ++ [j]) x w := by
  induction h with
  | nil => exact g
  | tup a b c _ ih => exact .tup a b c (ih g)
  | ow a b c d e _ ih => exact .ow a b c d e (ih g)
theorem fzs_get : ∀ {xs : List D} {j : Nat} {x : D}, fzs xs = true → xs[j]? = some x → x.fz = true
  | [], _, _, _, e => by simp at e
  | y :: ys, 0, x, h, e => by
    simp only [D.fz.fzs, Bool.and_eq_true] at h
    simp at e; subst e
    exact h.1
  | y :: ys, j + 1, x, h, e => by
    simp only [D.fz.fzs, Bool.and_eq_true] at h
    exact fzs_get h.2 (by simpa using e)
theorem Rep.item {K : PySem.W.Frag} {d x : D} {xs : List D} {v : V} {j : Nat} (sub : Sub S H) (rp : Rep K cA S H d v F) (h : asSeq d = some xs) (e : xs[j]? = some x) :
    ∃ a vs w F', v = .ref a ∧ (SqL K H a vs ∨ SqT K H a vs) ∧ vs.length = xs.length ∧ vs[j]? = some w ∧ Rep K cA S H x w F' ∧ List.Sublist F' F ∧ (x.fz = false → AtP cA S H d v [j] x w) := by
  cases rp with
  | non => cases h
  | bl _ => cases h
  | int _ => cases h
  | str _ => cases h
  | tup q rs =>
    cases h
    obtain ⟨w, F', h1, h2, h3⟩ := Reps.get rs e
    exact ⟨_, _, w, F', rfl, .inr (.inl (.inl (sub _ _ q))), (Reps.length rs).symm, h1, h2, h3, fun _ => .tup q e h1 .nil⟩
  | @fz k ys a vs n q rs z =>
    have hx : ys = xs := by cases k <;> simp [asSeq] at h <;> exact h
    subst hx
    obtain ⟨w, F', h1, h2, h3⟩ := Reps.get rs e
    have hq : SqL K H a vs ∨ SqT K H a vs := by
      cases k with
      | tup => exact absurd rfl n
      | lst => obtain ⟨o, e1, e2⟩ := q; cases e2; exact .inl (.inl (.of (sub _ _ e1)))
      | scr => exact .inl (SqL.mono sub q)
      | kt => exact .inr (SqT.mono sub q)
      | dK _ => simp [asSeq] at h
      | dT _ => simp [asSeq] at h
      | ins _ _ => simp [asSeq] at h
    exact ⟨a, vs, w, F', rfl, hq, (Reps.length rs).symm, h1, h2, h3, fun f => by rw [fzs_get z e] at f; cases f⟩
  | @ow k ys a vs o G n he q rs =>
    have hx : ys = xs := by cases k <;> simp [asSeq] at h <;> exact h
    subst hx
    obtain ⟨w, F', h1, h2, h3⟩ := Reps.get rs e
    have hq : SqL K H a vs ∨ SqT K H a vs := by
      cases k with
      | tup => exact absurd rfl n
      | lst => cases q; exact .inl (.inl (.of he))
      | scr => exact absurd q (by simp [HoIs])
      | kt => exact absurd q (by simp [HoIs])
      | dK _ => simp [asSeq] at h
      | dT _ => simp [asSeq] at h
      | ins _ _ => simp [asSeq] at h
    exact ⟨a, vs, w, F', rfl, hq, (Reps.length rs).symm, h1, h2, h3.trans (List.sublist_cons_self _ _), fun _ => .ow n he q e h1 .nil⟩
theorem plainIx {b : Expr} (h : plainE b = true) : PlainIx b := by
  intro o i
  cases b <;> first | rfl | (simp [plainE] at h)
/-- d[k], a dict -/
def rIxK : R2 := fun x y H Q => ∃ a v, x = .ref a ∧ DGet H a y (some v) ∧ Q v H
theorem ix_dct (hu : X.A.units + 62 < cLine) : IxR X rIxK := by
  intro value slice pins s σ H x y v u Q I rx ry h hs
  obtain ⟨a, w, rfl, g, q⟩ := h
  cases rx
  exact PyProof.Rows.tail_any (dict_typeIs I g) PySem.slot_dict_getitem.lookup (d_getItem (by show X.A.units + 1 < cLine; omega) I g ry fun w' s' I' rw' => ⟨w, H, I', rw', q⟩) hs
theorem e_ix {a b : Expr} {xa xb : Ex} {pos : Pos} (hu : X.A.units + 62 < cLine) (hp : plainE b = true) (ha : OkE X cA G cl L a xa) (hb : OkE X cA G cl Lb b xb) (hl : ∀ i, L i = true → Lb i = true) (root : RootOk G cl xa Lb) :
    OkE X cA G cl L (.Subscript a b pos) (.ix xa xb) := by
  refine PE.imp (pe_ix (ix_seq.or (ix_dct hu)) ha hb (plainIx hp)) fun s H Q ⟨S, r, p, x, r', st, e, k⟩ => ?_
  obtain ⟨ra, r1, rb, kd, h1, h2, h3, h4⟩ := ix_inv e
  refine seq2 st h1 h2 (fun q P d e => root _ _ q P d (by rw [h1, e])) hl fun x' y S2 H2 p2 F st2 rr ef => ?_
  cases rr with
  | @cons _ _ F1 _ _ G1 g1 rr dj =>
  cases rr with
  | @cons _ _ F2 _ _ G2 g2 rr dj2 =>
  obtain ⟨W, rk⟩ := RRep.get st2 g2 h3
  -- an item of the thing
  have item : ∀ (d0 d : D) (j : Nat), ra.get r' = some d0 → ItR ra x j d → (∀ (v0 : V) (F0 : List Addr), Rep X.K cA S2 H2 d0 v0 F0 → ∃ w F', Rep X.K cA S2 H2 d w F' ∧ List.Sublist F' F0 ∧ (d.fz = false → AtP cA S2 H2 d0 v0 [j] d w) ∧ (Q w H2 → rIx X.K v0 y H2 Q ∨ rIxK v0 y H2 Q)) → rIx X.K x' y H2 Q ∨ rIxK x' y H2 Q := fun d0 d j e1 e6 fin => by
    cases ra with
    | sl q =>
      obtain ⟨v', hv, rp⟩ := st2.rep q d0 e1
      rw [g1.1] at hv; cases hv
      obtain ⟨w, F', rpi, sl, at_, fq⟩ := fin _ _ rp
      refine fq ?_
      rcases e6 with ⟨hf, rfl⟩ | ⟨hf, ⟨q', e9, rfl⟩ | ⟨q', P, d', e9, rfl⟩ | ⟨d', e9, rfl⟩⟩
      · exact k _ S2 H2 p2 [] st2 ⟨Rep.fzmono (fun _ _ e => e) rpi hf, Tmp.nil⟩ (ef.drop fun a ha => absurd ha (by simp))
      · cases e9
        exact k _ S2 H2 p2 [] st2 ⟨rfl, d0, _, e1, g1.1, at_ hf⟩ (ef.drop fun a ha => absurd ha (by simp))
      · cases e9
      · cases e9
    | sn q P d' =>
      obtain ⟨ef1, d00, v00, g3, g4, at0⟩ := g1
      cases (Option.some.inj e1)
      obtain ⟨v', hv, rp0⟩ := st2.rep q d00 g3
      rw [g4] at hv; cases hv
      obtain ⟨F0, rp, _⟩ := AtP.rep at0 rp0
      obtain ⟨w, F', rpi, sl, at_, fq⟩ := fin _ _ rp
      refine fq ?_
      rcases e6 with ⟨hf, rfl⟩ | ⟨hf, ⟨q', e9, rfl⟩ | ⟨q', P, d', e9, rfl⟩ | ⟨d', e9, rfl⟩⟩
      · exact k _ S2 H2 p2 [] st2 ⟨Rep.fzmono (fun _ _ e => e) rpi hf, Tmp.nil⟩ (ef.drop fun a ha => absurd ha (by simp))
      · cases e9
      · cases e9
        exact k _ S2 H2 p2 [] st2 ⟨rfl, d00, v00, g3, g4, at0.snoc (at_ hf)⟩ (ef.drop fun a ha => absurd ha (by simp))
      · cases e9
    | tm d' =>
      obtain ⟨rp, tm⟩ := g1
      cases (Option.some.inj e1)
      obtain ⟨w, F', rpi, sl, at_, fq⟩ := fin _ _ rp
      refine fq ?_
      have e7 : x = .tm d := by
        rcases e6 with ⟨hf, rfl⟩ | ⟨hf, ⟨q', e9, rfl⟩ | ⟨q', P, d', e9, rfl⟩ | ⟨d', e9, rfl⟩⟩
        · rfl
        · cases e9
        · cases e9
        · rfl
      subst e7
      exact k _ S2 H2 p2 F' st2 ⟨rpi, tm.sub sl⟩ (ef.drop fun a ha => List.mem_append_left _ (sl.subset ha))
  rcases ixR_cases h4 with ⟨z, i, c, e1, rfl, hl, hat, rfl⟩ | ⟨d0, i, xs, j, d, e1, rfl, e3, e4, e5, e6⟩ | ⟨kd', o, xs, j, d, e1, e3, e5, e6⟩
  · cases rk
    obtain ⟨W2, rz⟩ := RRep.get st2 g1 e1
    cases rz
    exact .inl (.inr (.inr ⟨z, i, c, rfl, rfl, by rw [sizeLine_eq]; exact hl, hat, k _ S2 H2 p2 [] st2 ⟨.str _, Tmp.nil⟩ (ef.drop fun a ha => absurd ha (by simp))⟩))
  · cases rk
    refine item d0 d j e1 e6 fun v0 F0 rp => ?_
    obtain ⟨a, vs, w, F', rfl, q1, q2, q3, rpi, sl, at_⟩ := Rep.item st2.sub rp e3 e5
    refine ⟨w, F', rpi, sl, at_, fun q4 => .inl ?_⟩
    have hat : atI vs i = some w := by unfold atI; rw [q2, e4]; exact q3
    rcases q1 with q1 | q1
    · exact .inl ⟨a, vs, i, w, rfl, rfl, q1, hat, q4⟩
    · exact .inr (.inl ⟨a, vs, i, w, rfl, rfl, q1, hat, q4⟩)
  · refine item _ d j e1 e6 fun v0 F0 rp => ?_
    obtain ⟨a, vs, G, rfl, rs, sl, g, _, at_⟩ := dct_get st2.sub rp rk e3
    obtain ⟨w, F', q1, q2, q3⟩ := Reps.get rs e5
    refine ⟨w, F', q2, q3.trans sl, fun z => at_ j d w e5 q1 z, fun q => .inr ⟨a, w, rfl, ?_, q⟩⟩
    rw [show (some j).bind (vs[·]?) = some w from q1] at g
    exact g
/-! ### tables of the text, displays -/
theorem kix_inv {n : Str} {b : Ex} {x : R} (h : (Ex.kix n b).ev G cl r = some (x, r')) : ∃ rb z kv d, b.ev G cl r = some (rb, r') ∧ rb.get r' = some (.str z) ∧ G.dcts.lookup n = some kv ∧ kv.lookup z = some d ∧ x = .tm d := by
  simp only [Ex.ev] at h
  split at h
  · rename_i rb e1 h1
    split at h
    · rename_i z h2
      split at h
      · rename_i kv h3
        split at h
        · rename_i d h4
          cases h
          exact ⟨rb, z, kv, d, h1, h2, h3, h4, rfl⟩
        · cases h
      · cases h
    · cases h
  · cases h
/-- what a table of the text must be like -/
def DctAt (X : Cx) (cA : Nat → Addr) (G : Sig) (n : Str) : Prop := ∃ a, X.mg n = some (.ref a) ∧ (n == ("__debug__" : Str)) = false ∧ ∀ kv, G.dcts.lookup n = some kv → ∀ z d, kv.lookup z = some d → ∃ v, KDct X.K X.w a z v ∧ ∀ S H, Rep X.K cA S H d v []
theorem e_kix {n : Str} {b : Expr} {xb : Ex} {p1 pos : Pos} (hg : Gl X n) (hd : DctAt X cA G n) (hp : plainE b = true) (hb : OkE X cA G cl L b xb) : OkE X cA G cl L (.Subscript (.Name n p1) b pos) (.kix n xb) := by
  obtain ⟨a, hm, hx, hd⟩ := hd
  refine PE.imp (pe_ix ix_kdict (pe_glob (v := .ref a) hg hm rfl hx) hb (plainIx hp)) fun s H Q ⟨S, r, p, x, r', st, e, k⟩ => ?_
  obtain ⟨rb, z, kv, d, h1, h2, h3, h4, rfl⟩ := kix_inv e
  refine ⟨S, r, p, rb, r', st, h1, fun y S2 H2 p2 F st2 rr ef => ?_⟩
  obtain ⟨W, rz⟩ := RRep.get st2 rr h2
  cases rz
  obtain ⟨v, k1, k2⟩ := hd kv h3 z d h4
  exact ⟨a, z, v, rfl, rfl, k1, k v S2 H2 p2 [] st2 ⟨k2 S2 H2, Tmp.nil⟩ (ef.drop fun a ha => absurd ha (by simp))⟩
def litV : Cn → V
  | .non => .non | .bl b => .bl b | .int i => .int i | .str x => .str x
theorem litV_rep {c : Cn} {S H : Hp} {K : PySem.W.Frag} : Rep K cA S H c.d (litV c) [] := by
  cases c
  · exact .non
  · exact .bl _
  · exact .int _
  · exact .str _
theorem lit_pps {pos : Pos} : ∀ {ks : List (Option Expr)} {vs : List Expr} {kvs : List (Key × Cn)}, litKvs ks vs = some kvs → ks.length = vs.length ∧ kvs.length = ks.length ∧ ks.all (·.isSome) = true ∧ PPs X pos ks vs (kvs.map fun p => (tC (kV p.1), tC (litV p.2)))
  | [], [], kvs, h => by cases h; exact ⟨rfl, rfl, rfl, pps_nil⟩
  | some k :: ks, v :: vs, kvs, h => by
    unfold litKvs at h
    split at h
    · rename_i q w rr h1 h2 h3
      cases h
      obtain ⟨l1, l2, l3, l4⟩ := lit_pps h3
      have e1 : PE X k (tC (kV q)) := by
        unfold litKey at h1
        split at h1
        · cases h1; exact pe_int
        · cases h1; exact pe_str
        · cases h1
      have e2 : PE X v (tC (litV w)) := by
        unfold litVal at h2
        split at h2
        · cases h2; exact pe_non
        · cases h2; exact pe_bl
        · cases h2; exact pe_int
        · cases h2; exact pe_str
        · cases h2
      exact ⟨by simp [l1], by simp [l2], by simp [l3], pps_cons e1 e2 l4⟩
    · cases h
  | [], _ :: _, _, h => by simp [litKvs] at h
  | none :: _, _, _, h => by simp [litKvs] at h
  | some _ :: _, [], _, h => by simp [litKvs] at h
theorem tPairs_lit {σ : St} {H : Hp} : ∀ {kvs : List (Key × Cn)} {Q : List (V × V) → Hp → Prop}, Q (kvs.map fun p => (kV p.1, litV p.2)) H → tPairs (kvs.map fun p => (tC (kV p.1), tC (litV p.2))) σ H Q
  | [], _, h => h
  | p :: kvs, Q, h => tPairs_lit (kvs := kvs) (Q := fun ps H3 => Q ((kV p.1, litV p.2) :: ps) H3) h
theorem e_dlit {ks : List (Option Expr)} {vs : List Expr} {kvs : List (Key × Cn)} {pos : Pos} (h : litKvs ks vs = some kvs) (h1 : 1 ≤ kvs.length) (h15 : kvs.length ≤ 15) (hn : (kvs.map Prod.fst).Nodup) : OkE X cA G cl L (.Dict ks vs pos) (.dlit kvs) := by
  obtain ⟨l1, l2, l3, l4⟩ := lit_pps (X := X) (pos := pos) h
  refine PE.imp (pe_disp l4 l3 l1 (fun z => by rw [z] at l2; simp at l2; rw [l2] at h1; simp at h1) (by omega)) fun s H Q ⟨S, r, p, x, r', st, e, k⟩ => ?_
  simp only [Ex.ev] at e
  cases e
  intro a ha
  have go : ∀ l : List (Key × Cn), ∀ {H}, Reps X.K cA S H (l.map fun p => p.2.d) (l.map fun p => litV p.2) [] := fun l => by
    induction l with
    | nil => intro H; exact .nil
    | cons q l ih => intro H; exact .cons (F := []) (Fs := []) litV_rep ih
  refine tPairs_lit ⟨upd_same, kvs.map (fun p => (p.1, litV p.2)), by simp, by simpa using h15, ?_⟩
  have hnn : ((kvs.map fun p => (p.1, litV p.2)).map Prod.fst).Nodup := by simpa [List.map_map, Function.comp_def] using hn
  rw [mergeK_nil hnn]
  have sn : S a = none := by
    cases z : S a with
    | none => rfl
    | some o => rw [st.sub a o z] at ha; cases ha
  have hh : Same H (upd (upd H a (.dK [])) a (.dK (kvs.map fun p => (p.1, litV p.2)))) := fun b o e => by rw [upd_ne (ne_of_none e ha), upd_ne (ne_of_none e ha)]; exact e
  refine k _ S _ p [a] (st.ext (fun _ _ e => e) hh (fun _ _ e => .inl e) fun b o e => hh b o (st.sub b o e)) ⟨Rep.ow (F := []) (vs := kvs.map fun p => litV p.2) nofun upd_same ⟨by simp, by rw [List.zip_map']⟩ (go kvs), by simp, fun i b q hb => ?_, fun b hb => ?_⟩ ?_
  · have : b = a := by simpa using hb
    subst this
    obtain ⟨o, e⟩ := st.there q; rw [ha] at e; cases e
  · have : b = a := by simpa using hb
    subst this; exact sn
  · simpa using (Eff.ext (L := L) (r := r) (p := p) (F := [a]) (fun _ _ e => e) hh (fun _ _ e => .inl e) fun b hb => by
      have : b = a := by simpa using hb
      subst this; exact ha)
/-! ### xs[::-1] -/
theorem e_rev {a b : Expr} {xa : Ex} {pos : Pos} (h : isRev b = true) (ha : OkE X cA G cl L a xa) : OkE X cA G cl L (.Subscript a b pos) (.prim .rev_ (Exs.of [xa])) := by
  unfold isRev at h
  split at h
  · refine PE.imp (pe_revL ha) fun s H Q ⟨S, r, p, x, r', st, e, k⟩ => ?_
    obtain ⟨ra, da, d, h1, h2, h3, rfl⟩ := prim1_inv e
    refine ⟨S, r, p, ra, r', st, h1, fun y S2 H2 p2 F st2 rr ef => ?_⟩
    obtain ⟨W, rp⟩ := RRep.get st2 rr h2
    simp only [P.ev] at h3
    split at h3
    · split at h3
      · rename_i hz
        cases h3
        obtain ⟨l, vs, G', rfl, q, rs⟩ := Rep.lst st2.sub rp
        have rv : ∀ {xs : List D} {vs : List V}, Reps X.K cA S2 H2 xs vs [] → Reps X.K cA S2 H2 xs.reverse vs.reverse [] := fun {xs} => by
          induction xs with
          | nil => intro vs h; cases h; exact .nil
          | cons x xs ih =>
            intro vs h
            have hf := Reps.length h
            cases vs with
            | nil => simp at hf
            | cons v vs =>
              have inv : ∀ {E : List Addr}, Reps X.K cA S2 H2 (x :: xs) (v :: vs) E → ∃ F1 F2, Rep X.K cA S2 H2 x v F1 ∧ Reps X.K cA S2 H2 xs vs F2 ∧ F1 ++ F2 = E := fun h => by
                cases h with
                | cons r1 r2 => exact ⟨_, _, r1, r2, rfl⟩
              obtain ⟨F1, F2, r1, r2, e⟩ := inv h
              obtain ⟨rfl, rfl⟩ := List.append_eq_nil_iff.mp e
              rw [List.reverse_cons, List.reverse_cons]
              simpa using Reps.append (ih r2) (.cons (F := []) (Fs := []) r1 .nil)
        exact ⟨l, vs, rfl, .inl (.of q), fun a ha => (Pr.fin st2 ef k).ol st2.sub (rv (rs.still hz)) ha⟩
      · cases h3
    · cases h3
  · cases h
/-! ### chains -/
theorem chain_inv {o o' : P} {a b z : Ex} {x : R} (h : (Ex.chain o o' a b z).ev G cl r = some (x, r')) : ∃ ra r1 rb r2 ds, a.ev G cl r = some (ra, r1) ∧ b.ev G cl r1 = some (rb, r2) ∧ gets r2 [ra, rb] = some ds ∧
    ((o.ev ds = some (.bl false) ∧ x = .tm (.bl false) ∧ r' = r2) ∨ (o.ev ds = some (.bl true) ∧ ∃ rz ds' k, z.ev G cl r2 = some (rz, r') ∧ gets r' [rb, rz] = some ds' ∧ o'.ev ds' = some (.bl k) ∧ x = .tm (.bl k))) := by
  simp only [Ex.ev] at h
  split at h
  · rename_i ra r1 h1
    split at h
    · rename_i rb r2 h2
      split at h
      · rename_i da db ha hb
        have hg : gets r2 [ra, rb] = some [da, db] := by simp [gets, ha, hb]
        split at h
        · rename_i hp
          split at h
          · rename_i rz r3 h3
            split at h
            · rename_i db' dz hb' hz
              split at h
              · rename_i k hk
                cases h
                exact ⟨ra, r1, rb, r2, _, h1, h2, hg, .inr ⟨hp, rz, [db', dz], k, h3, by simp [gets, hb', hz], hk, rfl⟩⟩
              · cases h
            · cases h
          · cases h
        · rename_i hp
          cases h
          exact ⟨ra, r1, rb, _, _, h1, h2, hg, .inl ⟨hp, rfl, rfl⟩⟩
        · cases h
      · cases h
    · cases h
  · cases h
theorem chain_of {o o' : P} {a b z : Ex} (h : tX X.K cA L (fun r => (Ex.chain o o' a b z).ev G cl r) s H Q) (hl : ∀ i, L i = true → Lb i = true) (root : RootOk G cl a Lb) (hl2 : ∀ i, Lb i = true → Lc i = true) (hl3 : ∀ i, L i = true → Lc i = true) (root2 : RootOk G cl b Lc) :
    tChain (rP2 X cA o) (rP2 X cA o') (tX X.K cA L fun r => a.ev G cl r) (tX X.K cA Lb fun r => b.ev G cl r) (tX X.K cA Lc fun r => z.ev G cl r) s H Q := by
  obtain ⟨S, r, p, x, r', st, e, k⟩ := h
  obtain ⟨ra, r1, rb, r2, ds, h1, h2, h3, h4⟩ := chain_inv e
  refine seq2 st h1 h2 (fun q P d e => root _ _ q P d (by rw [h1, e])) hl fun x y S2 H2 p2 F st2 rr ef => ?_
  have hd := RReps.gets st2 rr h3
  rcases h4 with ⟨h4, rfl, rfl⟩ | ⟨h4, rz, ds', kb, h5, h6, h7, rfl⟩
  · refine ⟨S2, ds, .bl false, st2.sub, hd, h4, ?_⟩
    intro v S3 H3 F3 hs hh cap sub rp nd hf
    cases rp
    have st3 := st2.ext hs hh cap sub
    exact ⟨false, rfl, iteF (k _ S3 H3 p2 [] st3 (rbl _) ((ef.trans (Eff.ext (F := []) hs hh cap fun a ha => absurd ha (by simp))).drop fun a ha => absurd ha (by simp)))⟩
  · refine ⟨S2, ds, .bl true, st2.sub, hd, h4, ?_⟩
    intro v S3 H3 F3 hs hh cap sub rp nd hf
    cases rp
    have st3 := st2.ext hs hh cap sub
    have ef3 := Eff.ext (L := Lc) (r := r2) (p := p2) (F := []) hs hh cap fun a ha => absurd ha (by simp)
    refine ⟨true, rfl, iteT ⟨S3, r2, p2, rz, r', st3, h5, fun w S4 H4 p4 F4 st4 rr4 ef4 => ?_⟩⟩
    cases rr with
    | @cons _ _ G1 _ _ G2 g1 rr dj =>
    cases rr with
    | @cons _ _ G3 _ _ G4 g2 rr dj2 =>
    obtain ⟨c1, _⟩ := RRep.carry st2 g2 (ef3.trans ef4) fun q P d e => root2 _ _ q P d (by rw [h2, e])
    refine ⟨S4, ds', .bl kb, st4.sub, RReps.gets st4 (.cons c1 (.cons (G := []) rr4 .nil (fun a _ z => absurd z (by simp))) (fun a ha z => ?_)) h6, h7, Pr.fin st4 ((ef.trans (ef3.weak hl3)).trans (ef4.weak hl3)) k⟩
    exact (RRep.carry st2 g2 (ef3.trans ef4) fun q P d e => root2 _ _ q P d (by rw [h2, e])).2 a ha (by simpa using z)
theorem plainMark {b : Expr} (op : CmpOp) (h : plainE b = true) : behindInMarks op b = false := by
  cases b <;> first | rfl | (simp [plainE] at h)
theorem e_chain {op op' : CmpOp} {o o' : P} {a b z : Expr} {xa xb xz : Ex} {pos : Pos} (ho : OpR X (compareOp op) (rP2 X cA o)) (ho' : OpR X (compareOp op') (rP2 X cA o')) (hz : plainE z = true)
    (ha : OkE X cA G cl L a xa) (hb : OkE X cA G cl Lb b xb) (hc : OkE X cA G cl Lc z xz) (hl : ∀ i, L i = true → Lb i = true) (root : RootOk G cl xa Lb) (hl2 : ∀ i, Lb i = true → Lc i = true) (root2 : RootOk G cl xb Lc) :
    OkE X cA G cl L (.Compare a [op, op'] [b, z] pos) (.chain o o' xa xb xz) :=
  PE.imp (pe_chain ho ho' ha hb hc (plainMark op' hz)) fun s H Q h => chain_of h hl root hl2 (fun i q => hl2 i (hl i q)) root2
theorem t_chain {op op' : CmpOp} {o o' : P} {a b z : Expr} {xa xb xz : Ex} {pos : Pos} (ho : OpR X (compareOp op) (rP2 X cA o)) (ho' : OpR X (compareOp op') (rP2 X cA o')) (hz : plainE z = true)
    (ha : OkE X cA G cl L a xa) (hb : OkE X cA G cl Lb b xb) (hc : OkE X cA G cl Lc z xz) (hl : ∀ i, L i = true → Lb i = true) (root : RootOk G cl xa Lb) (hl2 : ∀ i, Lb i = true → Lc i = true) (root2 : RootOk G cl xb Lc) :
    OkT X cA G cl L (.Compare a [op, op'] [b, z] pos) (.chain o o' xa xb xz) :=
  PT.imp (pt_chain ho ho' ha hb hc (plainMark op' hz)) fun s H Q h => chain_of (test_of h) hl root hl2 (fun i q => hl2 i (hl i q)) root2
/-! ### if, else as a value -/
theorem ite_inv {t a b : Ex} {x : R} (h : (Ex.ite t a b).ev G cl r = some (x, r')) : ∃ c r1 d, bool1 (t.ev G cl r) = some (c, r1) ∧ x = .tm d ∧ (if c = true then a.ev G cl r1 = some (.tm d, r') else b.ev G cl r1 = some (.tm d, r')) := by
  have tm1_inv : ∀ {o : Option (R × Env)} {d : D} {e : Env}, tm1 o = some (d, e) → o = some (.tm d, e) := fun {o d e} h => by
    unfold tm1 at h
    split at h
    · cases h; rfl
    · cases h
  simp only [Ex.ev] at h
  split at h
  · rename_i e1 h1
    obtain ⟨⟨d, e2⟩, q, e⟩ := Option.map_eq_some_iff.mp h
    cases e
    exact ⟨true, e1, d, h1, rfl, iteT (tm1_inv q)⟩
  · rename_i e1 h1
    obtain ⟨⟨d, e2⟩, q, e⟩ := Option.map_eq_some_iff.mp h
    cases e
    exact ⟨false, e1, d, h1, rfl, iteF (tm1_inv q)⟩
  · cases h
theorem e_ite {t a b : Expr} {xt xa xb : Ex} {pos : Pos} (ht : OkT X cA G cl L t xt) (ha : OkE X cA G cl L a xa) (hb : OkE X cA G cl L b xb) : OkE X cA G cl L (.IfExp t a b pos) (.ite xt xa xb) := by
  refine PE.imp (pe_ifExp ht ha hb) fun s H Q ⟨S, r, p, x, r', st, e, k⟩ => ?_
  obtain ⟨c, r1, d, h1, rfl, h2⟩ := ite_inv e
  refine ⟨S, r, p, c, r1, st, h1, fun S1 H1 p1 st1 ef1 => ?_⟩
  cases c with
  | true => exact iteT ⟨S1, r1, p1, _, r', st1, h2, fun v S2 H2 p2 F st2 rr ef => k v S2 H2 p2 F st2 rr (by simpa using ef1.trans ef)⟩
  | false => exact iteF ⟨S1, r1, p1, _, r', st1, h2, fun v S2 H2 p2 F st2 rr ef => k v S2 H2 p2 F st2 rr (by simpa using ef1.trans ef)⟩
end
end TK
/-! TK, part 11: slices, built-in calls, join. Own work. -/
namespace TK
open PySem L2
section
variable {X : Cx} {cA : Nat → Addr} {G : Sig} {cl : Cl} {L Lb Lc : LK}
variable {r r' r1 r2 r3 : Env} {p p' p1 p2 : Nat → List Addr} {S S' S1 S2 H H' H1 H2 : Hp} {F F1 F2 : List Addr} {s : St} {Q : VK}
/-! ### slices -/
def rSl (K : PySem.W.Frag) : V → Option Int → Option Int → Hp → VK → Prop := fun x lo hi H Q => rSlL K x lo hi H Q ∨ (rSlA K x lo hi H Q ∨ rSlS x lo hi H Q)
theorem sl_all : SlR X (rSl X.K) := sl_list.or (sl_tupA.or sl_str)
theorem Reps.at0 {K : PySem.W.Frag} {xs : List D} {vs : List V} (h : Reps K cA S H xs vs []) {j : Nat} {d : D} {v : V} (e1 : xs[j]? = some d) (e2 : vs[j]? = some v) : Rep K cA S H d v [] := by
  obtain ⟨w, F, h1, h2, h3⟩ := Reps.get h e1
  rw [e2] at h1; cases h1
  rw [List.sublist_nil.mp h3] at h2
  exact h2
theorem Reps.drop0 {K : PySem.W.Frag} {xs : List D} {vs : List V} (h : Reps K cA S H xs vs []) (n : Nat) : Reps K cA S H (xs.drop n) (vs.drop n) [] :=
  Reps.of_get (by rw [List.length_drop, List.length_drop, Reps.length h]) fun j d v e1 e2 => h.at0 (by rw [List.getElem?_drop] at e1; exact e1) (by rw [List.getElem?_drop] at e2; exact e2)
theorem Reps.take0 {K : PySem.W.Frag} {xs : List D} {vs : List V} (h : Reps K cA S H xs vs []) (n : Nat) : Reps K cA S H (xs.take n) (vs.take n) [] :=
  Reps.of_get (by rw [List.length_take, List.length_take, Reps.length h]) fun j d v e1 e2 => by
    rw [List.getElem?_take] at e1 e2
    split at e1
    · rename_i hj
      rw [if_pos hj] at e2
      exact h.at0 e1 e2
    · cases e1
theorem Reps.cut0 {K : PySem.W.Frag} {xs : List D} {vs : List V} (h : Reps K cA S H xs vs []) (lo hi : Option Int) : Reps K cA S H (cutP xs lo hi) (cutV vs lo hi) [] := by
  unfold cutP cutV
  rw [← Reps.length h]
  exact (h.drop0 _).take0 _
theorem sIxP_eq (n d : Nat) (o : Option Int) : HT.sIx n d o = sIxP n d o := by
  cases o <;> rfl
theorem sl_fin {l h : Bool} {a d : D} {rs : List D} {x : V} (sub : Sub S H) (rp : Rep X.K cA S H a x F) (e : (P.sl l h).ev (a :: rs) = some d) (pr : Pr X.K cA S H d Q) :
    ∃ lo hi, optI (if l then rs[0]? else none) = some lo ∧ optI (if h then rs[if l then 1 else 0]? else none) = some hi ∧ rs.length = (if l then 1 else 0) + (if h then 1 else 0) ∧ rSl X.K x lo hi H Q := by
  simp only [P.ev] at e
  split at e
  · rename_i lo hi e1 e2
    by_cases e3 : rs.length = (if l then 1 else 0) + (if h then 1 else 0)
    · rw [if_pos e3] at e
      refine ⟨lo, hi, e1, e2, e3, ?_⟩
      split at e
      · rename_i z
        split at e
        · rename_i hz
          cases e; cases rp
          refine .inr (.inr ⟨z, rfl, by rw [sizeLine_eq]; exact hz, ?_⟩)
          have ec : cutS z lo hi = ⟨(cutP z.cps.toList lo hi).toArray⟩ := by
            unfold cutS cutP
            rw [sIxP_eq, sIxP_eq]
            have : z.length = z.cps.toList.length := by simp [Str.length]
            rw [this]
          rw [ec]
          exact pr.str sub
        · cases e
      · rename_i o xs
        split at e
        · rename_i hf
          cases e
          obtain ⟨a', vs, W, rfl, q, rs'⟩ := Rep.lst sub rp
          exact .inl ⟨a', vs, rfl, .inl (.of q), fun q hq => pr.ol sub ((rs'.still hf).cut0 lo hi) hq⟩
        · cases e
      · rename_i o xs
        split at e
        · rename_i hf
          cases e
          obtain ⟨a', vs, w, rfl, W, rs'⟩ : ∃ a' vs, (SqL X.K H a' vs) ∧ x = .ref a' ∧ ∃ G, Reps X.K cA S H xs vs G := by
            cases rp with
            | fz n q rs z => exact ⟨_, _, SqL.mono sub q, rfl, _, rs⟩
            | ow n q z rs => exact absurd z (by simp [HoIs])
          exact .inl ⟨a', vs, rfl, w, fun q hq => pr.ol sub ((rs'.still hf).cut0 lo hi) hq⟩
        · cases e
      · rename_i k o xs _ _
        split at e
        · rename_i hk
          have ht : asTup (.nd k o xs) = some xs := by
            have := hk.1
            cases k <;> simp [Kd.sq] at this <;> rfl
          obtain ⟨a', vs, W, rfl, q, rs'⟩ := Rep.tupv sub ht rp
          have hl : vs.length = xs.length := (Reps.length rs').symm
          refine .inr (.inl ⟨a', vs, rfl, q, fun w => ?_, fun w p hp => ?_⟩)
          · rw [sIxP_eq, sIxP_eq, hl] at w
            rw [if_pos w] at e
            split at e
            · rename_i hz
              cases e
              exact pr.self sub rp hz
            · cases e
          · rw [sIxP_eq, sIxP_eq, hl] at w
            rw [if_neg w] at e
            cases e
            exact pr.tup sub ((rs'.still hk.2).cut0 lo hi) hp
        · cases e
      · cases e
    · rw [if_neg e3] at e; cases e
  · cases e
theorem prim_inv {q : P} {as : Exs} {x : R} (h : (Ex.prim q as).ev G cl r = some (x, r')) : ∃ rs ds d, as.ev G cl r = some (rs, r') ∧ gets r' rs = some ds ∧ q.ev ds = some d ∧ x = .tm d := by
  simp only [Ex.ev] at h
  split at h
  · rename_i rs e1 h1
    split at h
    · rename_i ds h2
      split at h
      · rename_i d h3
        cases h
        exact ⟨rs, ds, d, h1, h2, h3, rfl⟩
      · cases h
    · cases h
  · cases h
theorem optI_some {d : D} {o : Option Int} (h : optI (some d) = some o) : ∃ i, d = .int i ∧ o = some i := by
  cases d <;> simp [optI] at h
  exact ⟨_, rfl, h.symm⟩
theorem e_sl0 {a : Expr} {xa : Ex} {pos p2 : Pos} (ha : OkE X cA G cl L a xa) : OkE X cA G cl L (.Subscript a (.Slice none none none p2) pos) (.prim (.sl false false) (Exs.of [xa])) := by
  refine PE.imp (pe_slice sl_all ha po_none po_none) fun s H Q ⟨S, r, p, x, r', st, e, k⟩ => ?_
  obtain ⟨ra, da, d, h1, h2, h3, rfl⟩ := prim1_inv e
  refine ⟨S, r, p, ra, r', st, h1, fun x S1 H1 p1 F1 st1 rr ef => ?_⟩
  obtain ⟨W, rp⟩ := RRep.get st1 rr h2
  obtain ⟨lo, hi, e1, e2, _, q⟩ := sl_fin st1.sub rp h3 (Pr.fin st1 ef k)
  cases e1; cases e2
  exact q
theorem gets2 {e : Env} {x y : R} {ds : List D} (h : gets e [x, y] = some ds) : ∃ a b, x.get e = some a ∧ y.get e = some b ∧ ds = [a, b] := by
  unfold gets at h
  split at h
  · rename_i d ds' h1 h2
    obtain ⟨b, h3, rfl⟩ := gets1 h2
    cases h
    exact ⟨d, b, h1, h3, rfl⟩
  · cases h
theorem RReps.two {K : PySem.W.Frag} {x y : R} {v w : V} (rr : RReps K cA S H r s p [x, y] [v, w] F) : ∃ A B, RRep K cA S H r s p x v A ∧ RRep K cA S H r s p y w B := by
  cases rr with
  | cons g1 rr dj =>
  cases rr with
  | cons g2 rr dj2 =>
  exact ⟨_, _, g1, g2⟩
theorem e_slL {a l : Expr} {xa xl : Ex} {pos p2 : Pos} (ha : OkE X cA G cl L a xa) (hl : OkE X cA G cl Lb l xl) (hm : ∀ i, L i = true → Lb i = true) (root : RootOk G cl xa Lb) :
    OkE X cA G cl L (.Subscript a (.Slice (some l) none none p2) pos) (.prim (.sl true false) (Exs.of [xa, xl])) := by
  refine PE.imp (pe_slice sl_all ha (po_some hl) po_none) fun s H Q ⟨S, r, p, x, r', st, e, k⟩ => ?_
  obtain ⟨ra, r1, rb, ds, d, h1, h2, h3, h4, rfl⟩ := prim2_inv e
  refine seq2 (Q := fun x y H2 => ∃ i, y = .int i ∧ rSl X.K x (some i) none H2 Q) st h1 h2 (fun q P d e => root _ _ q P d (by rw [h1, e])) hm fun x y S2 H2 p2 F st2 rr ef => ?_
  obtain ⟨da, db, g1, g2, rfl⟩ := gets2 h3
  obtain ⟨A, B, c1, c2⟩ := RReps.two rr
  obtain ⟨W, rp⟩ := RRep.get st2 c1 g1
  obtain ⟨W2, rp2⟩ := RRep.get st2 c2 g2
  obtain ⟨lo, hi, e1, e2, _, q⟩ := sl_fin st2.sub rp h4 (Pr.fin st2 ef k)
  obtain ⟨i, rfl, rfl⟩ := optI_some e1
  cases e2; cases rp2
  exact ⟨i, rfl, q⟩
theorem e_slH {a l : Expr} {xa xl : Ex} {pos p2 : Pos} (ha : OkE X cA G cl L a xa) (hl : OkE X cA G cl Lb l xl) (hm : ∀ i, L i = true → Lb i = true) (root : RootOk G cl xa Lb) :
    OkE X cA G cl L (.Subscript a (.Slice none (some l) none p2) pos) (.prim (.sl false true) (Exs.of [xa, xl])) := by
  refine PE.imp (pe_slice sl_all ha po_none (po_some hl)) fun s H Q ⟨S, r, p, x, r', st, e, k⟩ => ?_
  obtain ⟨ra, r1, rb, ds, d, h1, h2, h3, h4, rfl⟩ := prim2_inv e
  refine seq2 (Q := fun x y H2 => ∃ i, y = .int i ∧ rSl X.K x none (some i) H2 Q) st h1 h2 (fun q P d e => root _ _ q P d (by rw [h1, e])) hm fun x y S2 H2 p2 F st2 rr ef => ?_
  obtain ⟨da, db, g1, g2, rfl⟩ := gets2 h3
  obtain ⟨A, B, c1, c2⟩ := RReps.two rr
  obtain ⟨W, rp⟩ := RRep.get st2 c1 g1
  obtain ⟨W2, rp2⟩ := RRep.get st2 c2 g2
  obtain ⟨lo, hi, e1, e2, _, q⟩ := sl_fin st2.sub rp h4 (Pr.fin st2 ef k)
  obtain ⟨i, rfl, rfl⟩ := optI_some e2
  cases e1; cases rp2
  exact ⟨i, rfl, q⟩
/-- three in a row -/
theorem prim3_inv {q : P} {a b c : Ex} {x : R} (h : (Ex.prim q (Exs.of [a, b, c])).ev G cl r = some (x, r')) : ∃ ra r1 rb r2 rc ds d, a.ev G cl r = some (ra, r1) ∧ b.ev G cl r1 = some (rb, r2) ∧ c.ev G cl r2 = some (rc, r') ∧ gets r' [ra, rb, rc] = some ds ∧ q.ev ds = some d ∧ x = .tm d := by
  obtain ⟨rs, ds, d, h1, h2, h3, rfl⟩ := prim_inv h
  simp only [Exs.of, Exs.ev] at h1
  split at h1
  · rename_i ra e0 h0
    split at h1
    · rename_i rs' e2 h4
      split at h4
      · rename_i rb e3 h5
        split at h4
        · rename_i rs2 e4 h6
          split at h6
          · rename_i rc e5 h7
            cases h6; cases h4; cases h1
            exact ⟨_, _, _, _, _, ds, d, h0, h5, h7, h2, h3, rfl⟩
          · cases h6
        · cases h4
      · cases h4
    · cases h1
  · cases h1
theorem gets3 {e : Env} {x y z : R} {ds : List D} (h : gets e [x, y, z] = some ds) : ∃ a b c, x.get e = some a ∧ y.get e = some b ∧ z.get e = some c ∧ ds = [a, b, c] := by
  unfold gets at h
  split at h
  · rename_i d ds' h1 h2
    obtain ⟨b, c, h3, h4, rfl⟩ := gets2 h2
    cases h
    exact ⟨d, b, c, h1, h3, h4, rfl⟩
  · cases h
mutual
theorem quiet_ok : ∀ (x : Ex), x.quiet = true → ∀ (r : Env) (y : R) (r' : Env), x.ev G cl r = some (y, r') → r' = r
  | .con _, _, _, _, _, h => by simp only [Ex.ev] at h; cases h; rfl
  | .glo _, _, _, _, _, h => by simp only [Ex.ev] at h; (repeat' split at h) <;> cases h; rfl
  | .vz _, _, _, _, _, h => by simp only [Ex.ev] at h; (repeat' split at h) <;> cases h; rfl
  | .pk _, _, _, _, _, h => by simp only [Ex.ev] at h; (repeat' split at h) <;> cases h; rfl
  | .prim _ as, q, r, y, r', h => by
    obtain ⟨rs, ds, d, h1, _⟩ := prim_inv h
    exact quiets_ok as (by simpa [Ex.quiet] using q) r rs r' h1
  | .ix a b, q, r, y, r', h => by
    simp only [Ex.quiet, Bool.and_eq_true] at q
    obtain ⟨ra, r1, rb, kd, h1, h2, _⟩ := ix_inv h
    exact (quiet_ok b q.2 _ _ _ h2).trans (quiet_ok a q.1 _ _ _ h1)
  | .var _, q, _, _, _, _ => by simp [Ex.quiet] at q
  | .mv _, q, _, _, _, _ => by simp [Ex.quiet] at q
  | .kix _ _, q, _, _, _, _ => by simp [Ex.quiet] at q
  | .dlit _, q, _, _, _, _ => by simp [Ex.quiet] at q
  | .cs _ _, q, _, _, _, _ => by simp [Ex.quiet] at q
  | .fld _ _, q, _, _, _, _ => by simp [Ex.quiet] at q
  | .tup _, q, _, _, _, _ => by simp [Ex.quiet] at q
  | .lst _, q, _, _, _, _ => by simp [Ex.quiet] at q
  | .nott _, q, _, _, _, _ => by simp [Ex.quiet] at q
  | .ands _ _, q, _, _, _, _ => by simp [Ex.quiet] at q
  | .ors _ _, q, _, _, _, _ => by simp [Ex.quiet] at q
  | .ite _ _ _, q, _, _, _, _ => by simp [Ex.quiet] at q
  | .chain _ _ _ _ _, q, _, _, _, _ => by simp [Ex.quiet] at q
  | .call _ _ _, q, _, _, _, _ => by simp [Ex.quiet] at q
  | .meth _ _ _, q, _, _, _, _ => by simp [Ex.quiet] at q
  | .new _ _, q, _, _, _, _ => by simp [Ex.quiet] at q
  | .mut _ _ _, q, _, _, _, _ => by simp [Ex.quiet] at q
  | .lc _ _ _ _, q, _, _, _, _ => by simp [Ex.quiet] at q
theorem quiets_ok : ∀ (xs : Exs), xs.quiet = true → ∀ (r : Env) (y : List R) (r' : Env), xs.ev G cl r = some (y, r') → r' = r
  | .nil, _, _, _, _, h => by simp only [Exs.ev] at h; cases h; rfl
  | .cons a as, q, r, y, r', h => by
    simp only [Exs.quiet, Bool.and_eq_true] at q
    simp only [Exs.ev] at h
    split at h
    · rename_i y1 r1 h1
      split at h
      · rename_i ys r2 h2
        cases h
        exact (quiets_ok as q.2 _ _ _ h2).trans (quiet_ok a q.1 _ _ _ h1)
      · cases h
    · cases h
end
theorem e_slB {a l h : Expr} {xa xl xh : Ex} {pos p2 : Pos} (ha : OkE X cA G cl L a xa) (hl : OkE X cA G cl Lb l xl) (hh : OkE X cA G cl Lc h xh) (hq : xh.quiet = true) (hm : ∀ i, L i = true → Lb i = true) (root : RootOk G cl xa Lb) (hm2 : ∀ i, Lb i = true → Lc i = true) (root2 : RootOk G cl xl Lc) :
    OkE X cA G cl L (.Subscript a (.Slice (some l) (some h) none p2) pos) (.prim (.sl true true) (Exs.of [xa, xl, xh])) := by
  refine PE.imp (pe_slice sl_all ha (po_some hl) (po_some hh)) fun s H Q ⟨S, r, p, x, r', st, e, k⟩ => ?_
  obtain ⟨ra, r1, rb, r2, rc, ds, d, h1, h2, h3, h4, h5, rfl⟩ := prim3_inv e
  obtain ⟨da, db, dc, g1, g2, g3, rfl⟩ := gets3 h4
  have eq := (quiet_ok xh hq r2 _ _ h3 : _ = _)
  subst eq
  have ii : ∃ i j, db = .int i ∧ dc = .int j ∧ rSl X.K = rSl X.K := by
    simp only [P.ev] at h5
    split at h5
    · rename_i lo hi e1 e2
      obtain ⟨i, rfl, rfl⟩ := optI_some e1
      obtain ⟨j, rfl, rfl⟩ := optI_some e2
      exact ⟨i, j, rfl, rfl, rfl⟩
    · cases h5
  obtain ⟨i, j, rfl, rfl, _⟩ := ii
  refine seq2 (Q := fun x y H2 => ∃ i, y = .int i ∧ tPart (tX X.K cA Lc fun r => xh.ev G cl r) s H2 (fun o H3 => rSl X.K x (some i) o H3 Q)) st h1 h2 (fun q P d e => root _ _ q P d (by rw [h1, e])) hm fun x y S2 H2 p2 F st2 rr ef => ?_
  obtain ⟨A, B, c1, c2⟩ := RReps.two rr
  obtain ⟨W2, rp2⟩ := RRep.get st2 c2 g2
  cases rp2
  refine ⟨i, rfl, ⟨S2, r', p2, rc, r', st2, h3, fun z S3 H3 p3 F3 st3 rr3 ef3 => ?_⟩⟩
  obtain ⟨c3, _⟩ := RRep.carry st2 c1 ef3 fun q P d e => hm2 _ (root _ _ q P d (by rw [h1, e]))
  obtain ⟨W, rp⟩ := RRep.get st3 c3 g1
  obtain ⟨W3, rp3⟩ := RRep.get st3 rr3 g3
  cases rp3
  obtain ⟨lo, hi, e1, e2, _, q⟩ := sl_fin st3.sub rp h5 (Pr.fin st3 (ef.trans (ef3.weak fun i q => hm2 i (hm i q))) k)
  cases e1; cases e2
  exact ⟨j, rfl, q⟩
/-! ### built-in calls -/
theorem noStars {es : List Expr} {env : PySem.Env} {pos : Pos} (h : es.all noStar = true) : (backTo pos (starEach es env)).any (·.1) = false := by
  induction es with
  | nil => rfl
  | cons e es ih =>
    simp only [List.all_cons, Bool.and_eq_true] at h
    rw [starEach_cons h.1]
    have := ih h.2
    simp only [backTo, List.map_cons, List.any_cons, Bool.false_or]
    exact this
theorem prim_of {o : P} {as : Exs} (h : tX X.K cA L (fun r => (Ex.prim o as).ev G cl r) s H Q) : tCB (rP X cA o) (tXs X.K cA L fun r => as.ev G cl r) s H Q := by
  obtain ⟨S, r, p, x, r', st, e, k⟩ := h
  obtain ⟨rs, ds, d, h1, h2, h3, rfl⟩ := prim_inv e
  exact ⟨S, r, p, rs, r', st, h1, fun vs S1 H1 p1 F st1 rr ef => ⟨S1, ds, d, st1.sub, RReps.gets st1 rr h2, h3, Pr.fin st1 ef k⟩⟩
theorem e_callB {o : P} {id : String} {x : Str} {e : Expr} {es : List Expr} {xs : Exs} {pn pos : Pos} (hc : CallR X (.builtin id) (rP X cA o)) (hg : Gl X x) (hm : X.mg x = none) (hv : bootBuiltins x = some (.builtin id)) (ha : OkA X cA G cl L (e :: es) xs)
    (hn : x ≠ "__name__") (hdb : (x == ("__debug__" : Str)) = false) (hs : (e :: es).all noStar = true) : OkE X cA G cl L (.Call (.Name x pn) (e :: es) [] pos) (.prim o xs) := by
  simp only [List.all_cons, Bool.and_eq_true] at hs
  exact PE.imp (pe_callB hc hg hm hv ha hn hdb (starEach_cons hs.1) (noStars hs.2)) fun s H Q h => prim_of h
theorem e_callTy {o : P} {id : String} {x : Str} {e : Expr} {es : List Expr} {xs : Exs} {pn pos : Pos} (hc : CallR X (.type id) (rP X cA o)) (hg : Gl X x) (hm : X.mg x = none) (hv : bootBuiltins x = some (.type id)) (ha : OkA X cA G cl L (e :: es) xs)
    (hn : x ≠ "__name__") (hdb : (x == ("__debug__" : Str)) = false) (hs : (e :: es).all noStar = true) : OkE X cA G cl L (.Call (.Name x pn) (e :: es) [] pos) (.prim o xs) := by
  simp only [List.all_cons, Bool.and_eq_true] at hs
  exact PE.imp (pe_callTy hc hg hm hv ha hn hdb (starEach_cons hs.1) (noStars hs.2)) fun s H Q h => prim_of h
theorem tyOf_boot {t : Str} {ty : Ty} (h : tyOf t = some ty) : bootBuiltins t = some (.type ty.nm) ∧ t ≠ "__name__" ∧ (t == ("__debug__" : Str)) = false := by
  unfold tyOf at h
  split at h
  · rename_i e; subst e; cases h; exact ⟨by decide, by decide, by decide⟩
  split at h
  · rename_i e; subst e; cases h; exact ⟨by decide, by decide, by decide⟩
  split at h
  · rename_i e; subst e; cases h; exact ⟨by decide, by decide, by decide⟩
  split at h
  · rename_i e; subst e; cases h; exact ⟨by decide, by decide, by decide⟩
  split at h
  · rename_i e; subst e; cases h; exact ⟨by decide, by decide, by decide⟩
  split at h
  · rename_i e; subst e; cases h; exact ⟨by decide, by decide, by decide⟩
  · cases h
theorem e_isi {a : Expr} {xa : Ex} {t : Str} {ty : Ty} {x : Str} {pn pt pos : Pos} {cs : List Nat} (hcs : ∀ c ∈ cs, IsK X.K (cA c)) (hx : x = "isinstance") (hg : Gl X x) (hm : X.mg x = none) (ht : tyOf t = some ty) (hgt : Gl X t) (hmt : X.mg t = none) (hs : noStar a = true) (ha : OkE X cA G cl L a xa) :
    OkE X cA G cl L (.Call (.Name x pn) [a, .Name t pt] [] pos) (.prim (.isi ty cs) (Exs.of [xa])) := by
  subst hx
  obtain ⟨b1, b2, b3⟩ := tyOf_boot ht
  have hA : PA X [a, .Name t pt] (tCons (tX X.K cA L fun r => xa.ev G cl r) (tCons (tC (.ty ty.nm)) tNil)) := pa_cons ha (pa_cons (pe_bltn hgt hmt b1 rfl b2 b3) pa_nil rfl) (starEach_cons hs)
  refine PE.imp (pe_callB (c_isi (cA := cA) ty cs hcs) hg hm (by decide) hA (by decide) (by decide) (starEach_cons hs) rfl) fun s H Q h => ?_
  obtain ⟨S, r, p, x, r', st, e, k⟩ := un_of h
  exact ⟨S, r, p, x, r', st, e, fun v S' H' p' F st' rr ef => ⟨v, rfl, k v S' H' p' F st' rr ef⟩⟩
theorem e_isi2 {a : Expr} {xa : Ex} {t u : Str} {ty tz : Ty} {x : Str} {pn pt pu tp pos : Pos} {k : Nat} {cs : List Nat} (hcs : ∀ c ∈ cs, IsK X.K (cA c)) (hx : x = "isinstance") (hg : Gl X x) (hm : X.mg x = none) (ht : tyOf t = some ty) (hgt : Gl X t) (hmt : X.mg t = none) (hu : tyOf u = some tz) (hgu : Gl X u) (hmu : X.mg u = none) (hs : noStar a = true) (ha : OkE X cA G cl L a xa) :
    OkE X cA G cl L (.Call (.Name x pn) [a, .Tuple [.Name t pt, .Name u pu] k tp] [] pos) (.prim (.isi2 ty tz cs) (Exs.of [xa])) := by
  subst hx
  obtain ⟨b1, b2, b3⟩ := tyOf_boot ht
  obtain ⟨c1, c2, c3⟩ := tyOf_boot hu
  have hT : PE X (.Tuple [.Name t pt, .Name u pu] k tp) (tTup (tCons (tC (.ty ty.nm)) (tCons (tC (.ty tz.nm)) tNil))) := pe_tup (pa_cons (pe_bltn hgt hmt b1 rfl b2 b3) (pa_cons (pe_bltn hgu hmu c1 rfl c2 c3) pa_nil rfl) rfl)
  have hA : PA X [a, .Tuple [.Name t pt, .Name u pu] k tp] (tCons (tX X.K cA L fun r => xa.ev G cl r) (tCons (tTup (tCons (tC (.ty ty.nm)) (tCons (tC (.ty tz.nm)) tNil))) tNil)) := pa_cons ha (pa_cons hT pa_nil rfl) (starEach_cons hs)
  refine PE.imp (pe_callB call_isiT hg hm (by decide) hA (by decide) (by decide) (starEach_cons hs) rfl) fun s H Q h => ?_
  obtain ⟨S, r, p, y, r', st, e, kk⟩ := h
  obtain ⟨rs, ds, d, h1, h2, h3, rfl⟩ := prim_inv e
  simp only [Exs.of, Exs.ev] at h1
  split at h1
  · rename_i y1 r1 e1
    cases h1
    refine ⟨S, r, p, y1, _, st, e1, fun v S1 H1 p1 F st1 rr ef => ⟨by rw [sizeLine_eq]; show 2 ≤ 16777216; decide, fun T hT => ?_⟩⟩
    simp only [gets] at h2
    split at h2
    · rename_i d1 ds1 g1 g2
      cases g2; cases h2
      have same : Same H1 (upd H1 T (.tup [.ty ty.nm, .ty tz.nm])) := fun b o e => by rw [upd_ne (ne_of_none e hT)]; exact e
      have pr := Pr.fin st1 ef kk
      simp only [P.ev] at h3
      split at h3
      · rename_i k1 k2 i1 i2
        cases h3
        obtain ⟨W, rp⟩ := RRep.get st1 rr g1
        obtain ⟨tv, w1, w2⟩ := isi_tv cs hcs st1.sub rp same i1
        refine ⟨v, T, [.ty ty.nm, .ty tz.nm], tv, [.type ty.nm, .type tz.nm], k1 || k2, rfl, upd_same, .cons (.ty _) (.cons (.ty _) .nil), w1, ?_, ?_⟩
        · simp only [PySem.W.kitAny, w2 _ _ i1, w2 _ _ i2]
          cases k1 <;> cases k2 <;> rfl
        · exact pr (.bl (k1 || k2)) S1 _ [] (fun _ _ e => e) same (fun _ _ e => .inl e) (fun b o e => same b o (st1.sub b o e)) (.bl _) List.nodup_nil (by simp)
      · cases h3
    · cases h2
  · cases h1
/-! ### join -/
theorem strsOf_reps {xs : List D} {vs : List V} {ys : List Str} (h : strsOf xs = some ys) (rs : Reps X.K cA S H xs vs F) : vs = ys.map V.str := by
  induction xs generalizing vs ys F with
  | nil => cases h; cases rs; rfl
  | cons x xs ih =>
    cases x <;> simp only [strsOf] at h <;> try cases h
    obtain ⟨zs, h1, rfl⟩ := Option.map_eq_some_iff.mp h
    cases rs with
    | cons r1 rs =>
      cases r1
      rw [ih h1 rs]
      rfl
theorem e_join {z : Str} {k1} {p1 : Pos} {a : Expr} {xa : Ex} {apos pos : Pos} (hs : noStar a = true) (hline : (apos.endLine == pos.line) = true) (ha : OkE X cA G cl L a xa) :
    OkE X cA G cl L (.Call (.Attribute (.Constant (.str z) k1 p1) "join" apos) [a] [] pos) (.prim .join (Exs.of [.con (.str z), xa])) := by
  refine PE.imp (pe_join pe_str ha (starEach_cons hs) rfl hline) fun s H Q ⟨S, r, p, x, r', st, e, k⟩ => ⟨⟨z, rfl⟩, ?_⟩
  obtain ⟨ra, r1, rb, ds, d, h1, h2, h3, h4, rfl⟩ := prim2_inv e
  simp only [Ex.ev] at h1
  cases h1
  obtain ⟨da, db, g1, g2, rfl⟩ := gets2 h3
  cases g1
  refine ⟨S, r, p, rb, r', st, h2, fun y S1 H1 p1 F1 st1 rr ef => ?_⟩
  obtain ⟨W, rp⟩ := RRep.get st1 rr g2
  simp only [P.ev, Cn.d] at h4
  split at h4
  · rename_i xs hx
    split at h4
    · rename_i ys hy
      split at h4
      · rename_i hl
        cases h4
        obtain ⟨b, vs, G', rfl, q, rs⟩ := Rep.seqv st1.sub hx rp
        have ev := strsOf_reps hy rs
        subst ev
        exact ⟨z, b, ys, rfl, rfl, q, hl, by rw [TL.join_eq]; exact (Pr.fin st1 ef k).str st1.sub⟩
      · cases h4
    · cases h4
  · cases h4
end
end TK
/-! TK: sets of texts: set(xs), |, sorted. Own work. -/
namespace Tku
open PySem PySem.Spec PyProof.Rows L2
open TK (gotS)
abbrev newS (w : World) : Obj := { cls := .type "set", dict := none, data := .set #[] 0 (.fresh 0 0 (!w.params.followText "set-order")) }
def kyS (e : Int × Value) : Str := match e.2 with
  | .str k _ => k
  | _ => Str.empty
def OkS (w : World) (e : Int × Value) : Prop := ∃ k tk, e.2 = Value.str k tk ∧ e.1 = hashStr w k
/-- the set of texts at a: its members are those of l -/
def SetS (w : World) (h : Heap) (a : Addr) (l : List Str) : Prop :=
  ∃ o es ep t, h.get? a = some o ∧ o.ExactSet ∧ o.data = .set es ep t ∧ (∀ e ∈ es.toList, OkS w e) ∧ (es.toList.map kyS).Nodup ∧ (es.toList.map kyS).Perm l ∧ es.size < scanBound ∧ t.fits es.size = true ∧
    Ris t.place.toList ∧ (w.params.followText "set-order" = true ∨ t.led = true)
section
variable {P : Program} {w : World} {h h' : Heap} {a : Addr} {l : List Str}
theorem SetS.at (R : SetS w h a l) (k : ∀ o, h.get? a = some o → h'.get? a = some o) : SetS w h' a l := by
  obtain ⟨o, es, ep, t, ho, r⟩ := R
  exact ⟨o, es, ep, t, k o ho, r⟩
theorem SetS.lt (R : SetS w h a l) : a < h.objs.size := by
  obtain ⟨o, es, ep, t, ho, r⟩ := R
  exact Heap.lt_size ho
theorem SetS.type {s : Shared} (R : SetS w s.heap a l) : s.TypeIs (.ref a) "set" := by
  obtain ⟨o, es, ep, t, ho, hx, _⟩ := R
  exact ⟨o, ho, hx.1⟩
theorem ok_elems {l : List (Int × Value)} (g : ∀ e ∈ l, OkS w e) : ElemsOf (strKind P w) l := fun e he => by
  obtain ⟨k, tk, h1, h2⟩ := g e he
  refine ⟨⟨k, ?_, h2⟩, by rw [h1] <;> rfl⟩
  rw [h1]
  show Value.isStrOf k (.str k tk) = true
  simp [Value.isStrOf]
theorem ok_is {e : Int × Value} (g : OkS w e) (k : Str) : (strKind P w).is k e.2 = true ↔ kyS e = k := by
  obtain ⟨k0, tk, h1, _⟩ := g
  unfold kyS
  rw [h1]
  show (Value.isStrOf k (.str k0 tk) = true) ↔ k0 = k
  simp only [Value.isStrOf]
  constructor
  · intro z; first | exact (beq_iff_eq.mp z) | exact (beq_iff_eq.mp z).symm
  · intro z; subst z; simp
theorem ok_mem {l : List (Int × Value)} (g : ∀ e ∈ l, OkS w e) (k : Str) : k ∈ l.map kyS ↔ ∃ e ∈ l, (strKind P w).is k e.2 = true := by
  rw [List.mem_map]
  exact ⟨fun ⟨e, he, q⟩ => ⟨e, he, (ok_is (g e he) k).2 q⟩, fun ⟨e, he, q⟩ => ⟨e, he, (ok_is (g e he) k).1 q⟩⟩
end
section
variable {P : Program} {w : World} {A : Around} {E : Value → Shared → Prop} {s : Shared} {a : Addr} {l : List Str}
theorem addS_tail {g : Bool → Sem Unit} (hg : ∀ (b : Bool) (s₁ : Shared) (Q' : Unit → Shared → Prop), Q' () s₁ → wpAny (model P w) A (g b) Q' E s₁)
    {o : Obj} {es : Array (Int × Value)} {ep : Nat} {t : SetTable} (ho : s.heap.get? a = some o) (hex : o.ExactSet) (hd : o.data = .set es ep t)
    {es1 : Array (Int × Value)} {t2 : SetTable} {l' : List Str} (g1 : ∀ e ∈ es1.toList, OkS w e) (nd1 : (es1.toList.map kyS).Nodup) (m1 : (es1.toList.map kyS).Perm l')
    (hb1 : es1.size < scanBound) (hf2 : t2.fits es1.size = true) (hr : Ris t2.place.toList) (hl : w.params.followText "set-order" = true ∨ t2.led = true) {wasDummy : Bool} {R : Option Bool → Shared → Prop}
    (hR : ∀ h', Heap.SameBut a s.heap h' → SetS w h' a l' → R (some true) { s with heap := h' }) :
    wpAny (model P w) A (do
        storeSet a es1 t2
        if (!wasDummy && t2.tooFull) = true then do
            g (relayAll t2 es1 (SetTable.grown es1.size)).2.2
            storeSet a (relayAll t2 es1 (SetTable.grown es1.size)).1 (relayAll t2 es1 (SetTable.grown es1.size)).2.1
            pure (some true)
          else pure (some true)) R E s := by
  refine wpAny_bind (wpAny_storeSet_of ho hd ?_ (fits_of_scanBound hb1))
  have ho1 := store_at (es' := es1) (t' := t2) ho hd
  have sb1 := Heap.SameBut.update s.heap a (Obj.putSet es1 t2)
  split
  · have pm := relayAll_perm t2 es1 (SetTable.grown es1.size)
    have hf3 := relayAll_fits t2 es1 (SetTable.grown es1.size)
    have hr3 := relayAll_ris t2 es1 (SetTable.grown es1.size)
    have hl3 := relayAll_led t2 es1 (SetTable.grown es1.size)
    generalize relayAll t2 es1 (SetTable.grown es1.size) = Z at pm hf3 hr3 hl3 ⊢
    obtain ⟨es2, t3, gave⟩ := Z
    dsimp only at pm hf3 hr3 hl3 ⊢
    have hsz : es2.size = es1.size := by rw [← Array.length_toList, pm.length_eq, Array.length_toList]
    have hb2 : es2.size < scanBound := by rw [hsz]; exact hb1
    refine wpAny_bind (hg _ _ _ ?_)
    refine wpAny_bind (wpAny_storeSet_of ho1 rfl ?_ (fits_of_scanBound hb2))
    have ho2 := store_at (es' := es2) (t' := t3) ho1 rfl
    refine wpAny_pure (hR _ (sb1.trans (Heap.SameBut.update _ a _)) ?_)
    exact ⟨_, es2, _, t3, ho2, hex, rfl, fun e he => g1 e (pm.mem_iff.mp he), (pm.map kyS).nodup_iff.mpr nd1, (pm.map kyS).trans m1, hb2, hf3, hr3, hl.imp id fun z => by rw [hl3]; exact z⟩
  · exact wpAny_pure (hR _ sb1 ⟨_, es1, _, t2, ho1, hex, rfl, g1, nd1, m1, hb1, hf2, hr, hl⟩)
theorem addS_hashed {k : Str} {tk : Tok} {Q : Bool → Shared → Prop} (R : SetS w s.heap a l) (room : l.length + 1 < scanBound)
    (hQ : ∀ h', Heap.SameBut a s.heap h' → SetS w h' a (if k ∈ l then l else k :: l) → Q (!decide (k ∈ l)) { s with heap := h' }) :
    wpAny (model P w) A (setAddHashed a (.str k tk) (hashStr w k)) Q E s := by
  obtain ⟨o, es, ep, t, ho, hex, hd, g, nd, hm, hb, hf, hr, hl⟩ := R
  have hkey : (strKind P w).is k (.str k tk) = true := by
    show Value.isStrOf k (.str k tk) = true
    simp [Value.isStrOf]
  have hsc : (Value.str k tk).scannable = true := rfl
  have hel : ElemsOf (strKind P w) es.toList := ok_elems g
  show wpAny (model P w) A (setAddHashed a (.str k tk) ((strKind P w).hash k)) Q E s
  unfold setAddHashed setAddHashedIn
  refine wpAny_holding (wpAny_bind (wpAny_setState_of ho hd hf ?_))
  dsimp only
  rw [byScan_of hsc hb hel]
  simp only [↓reduceIte]
  unfold setAddByScan
  refine wpAny_bind ?_
  refine wpAny_bind (wpAny_rule ?_)
  refine wpAny_bind (wpAny_setScan_of hkey ho hd hf hel ?_)
  cases hfi : List.findIdx? (fun e => (strKind P w).is k e.2) es.toList with
  | some j =>
    dsimp only
    obtain ⟨hj, pj, _⟩ := List.findIdx?_eq_some_iff_getElem.mp hfi
    have hk : k ∈ l := hm.mem_iff.mp ((ok_mem (P := P) g k).2 ⟨es.toList[j], List.getElem_mem hj, pj⟩)
    have q := hQ s.heap (Heap.SameBut.refl a s.heap)
    rw [if_pos hk, decide_eq_true hk] at q
    exact wpAny_pure (wpAny_pure (q ⟨o, es, ep, t, ho, hex, hd, g, nd, hm, hb, hf, hr, hl⟩))
  | none =>
    dsimp only
    have hnk : k ∉ es.toList.map kyS := fun z => by
      obtain ⟨e, he, q⟩ := (ok_mem (P := P) g k).1 z
      have c := List.findIdx?_eq_none_iff.mp hfi e he
      rw [q] at c
      cases c
    have hk : k ∉ l := fun z => hnk (hm.mem_iff.mpr z)
    have hgw : ∀ (b : Bool) {s₁ : Shared} {Q' : Unit → Shared → Prop}, Q' () s₁ → wpAny (model P w) A (match b with | true => rule "set.scan.the-table-gave-way" | false => pure ()) Q' E s₁ :=
      fun b s₁ Q' q => by cases b <;> first | exact wpAny_pure q | exact wpAny_rule q
    have pm := layNew_perm t es ((strKind P w).hash k) (.str k tk)
    have hf1 := layNew_fits t es ((strKind P w).hash k) (.str k tk)
    have hr1 := layNew_ris t es ((strKind P w).hash k) (.str k tk) hr
    have hl1 := layNew_led t es ((strKind P w).hash k) (.str k tk)
    generalize layNew t es ((strKind P w).hash k) (.str k tk) = Z at pm hf1 hr1 hl1 ⊢
    obtain ⟨es1, t1, wasDummy, gave⟩ := Z
    dsimp only at pm hf1 hr1 hl1 ⊢
    rw [Array.toList_push] at pm
    have pc : es1.toList.Perm (((strKind P w).hash k, Value.str k tk) :: es.toList) := pm.trans (List.perm_append_singleton _ _)
    have pk : (es1.toList.map kyS).Perm (k :: es.toList.map kyS) := pc.map kyS
    have g1 : ∀ e ∈ es1.toList, OkS w e := fun e he => by
      rcases List.mem_cons.mp (pc.mem_iff.mp he) with z | z
      · rw [z]; exact ⟨k, tk, rfl, rfl⟩
      · exact g e z
    have nd1 : (es1.toList.map kyS).Nodup := pk.nodup_iff.mpr (List.nodup_cons.mpr ⟨hnk, nd⟩)
    have m1 : (es1.toList.map kyS).Perm (k :: l) := pk.trans (hm.cons k)
    have hsz : es1.size = l.length + 1 := by
      have e1 := pc.length_eq
      have e2 := hm.length_eq
      rw [Array.length_toList, List.length_cons, Array.length_toList] at e1
      rw [List.length_map, Array.length_toList] at e2
      omega
    have hb1 : es1.size < scanBound := by rw [hsz]; exact room
    have hled : w.params.followText "set-order" = true ∨ t1.led = true := hl.imp id fun z => by rw [hl1]; exact z
    have fin : ∀ h', Heap.SameBut a s.heap h' → SetS w h' a (k :: l) → Q true { s with heap := h' } := fun h' sb r => by
      have q := hQ h' sb
      rw [if_neg hk, decide_eq_false hk] at q
      exact q r
    refine wpAny_bind (hgw _ ?_)
    split
    · refine wpAny_bind ?_
      rw [hashByValue_scannable 8 hsc]
      refine wpAny_pure ?_
      refine addS_tail ?_ ho hex hd g1 nd1 m1 hb1 ?_ ?_ ?_ ?_
      · intro b s₁ Q' q; cases b <;> first | exact wpAny_pure q | exact wpAny_rule q
      · first | (split <;> first | exact hf1 | exact SetTable.fits_plain_off hf1) | exact hf1
      · first | (split <;> exact hr1) | exact hr1
      · first | (split <;> exact hled) | exact hled
      · intro h' sb r; dsimp only; exact wpAny_pure (fin h' sb r)
    · refine wpAny_bind (wpAny_pure ?_)
      simp only [↓reduceIte]
      refine addS_tail ?_ ho hex hd g1 nd1 m1 hb1 hf1 hr1 hled ?_
      · intro b s₁ Q' q; cases b <;> first | exact wpAny_pure q | exact wpAny_rule q
      · intro h' sb r; dsimp only; exact wpAny_pure (fin h' sb r)
theorem setS_fresh {h : Heap} {a : Addr} (ho : h.get? a = some { cls := .type "set", dict := none, data := .set #[] 0 (.fresh 0 0 (!w.params.followText "set-order")) }) : SetS w h a [] :=
  ⟨_, #[], 0, _, ho, ⟨rfl, rfl, rfl⟩, rfl, (fun e he => by simp at he), (by simp), (by simp), (by decide), (by rfl), List.Pairwise.nil, by
    show _ ∨ (!w.params.followText "set-order") = true
    cases w.params.followText "set-order"
    · exact .inr rfl
    · exact .inl rfl⟩
theorem gotS_len : ∀ (xs l : List Str), (gotS xs l).length ≤ l.length + xs.length
  | [], l => by simp [gotS]
  | x :: xs, l => by
    have ih := gotS_len xs (if x ∈ l then l else x :: l)
    simp only [gotS, List.length_cons]
    split at ih <;> rename_i c <;> simp only [c, if_true, if_false] at ih ⊢ <;> simp at ih ⊢ <;> omega
theorem gotS_nodup : ∀ (xs l : List Str), l.Nodup → (gotS xs l).Nodup
  | [], l, h => h
  | x :: xs, l, h => by
    simp only [gotS]
    split
    · exact gotS_nodup xs l h
    · rename_i c
      exact gotS_nodup xs _ (List.nodup_cons.mpr ⟨c, h⟩)
theorem gotS_mem : ∀ (xs l : List Str) (y : Str), y ∈ gotS xs l ↔ y ∈ l ∨ y ∈ xs
  | [], l, y => by simp [gotS]
  | x :: xs, l, y => by
    simp only [gotS]
    rw [gotS_mem]
    split
    · rename_i c
      simp only [List.mem_cons]
      exact ⟨fun h => h.elim .inl fun h => .inr (.inr h), fun h => h.elim .inl fun h => h.elim (fun e => .inl (e ▸ c)) .inr⟩
    · simp only [List.mem_cons]
      constructor
      · rintro ((h | h) | h)
        · exact .inr (.inl h)
        · exact .inl h
        · exact .inr (.inr h)
      · rintro (h | h | h)
        · exact .inl (.inr h)
        · exact .inl (.inl h)
        · exact .inr h
theorem updS_loop {I : Addr} {fp wr : List Addr} {G : Array GenState → Array GenState → Prop} {n : Nat} {Pv : Nat → Value → Prop} {St : Nat → Shared → Prop} {R : Result → Shared → Prop}
    (W : WalksS P w A.in1 I fp wr G n Pv St) (S : Addr) (hSf : S ∉ fp) (ns : List Str) (hn : n = ns.length) (hval : ∀ i v, Pv i v → ∃ k t, ns[i]? = some k ∧ v = .str k t) :
    ∀ (k i : Nat) (s : Shared) (l : List Str), n - i = k → i ≤ n → St i s → SetS w s.heap S l → l.length + k + 1 < scanBound →
      (∀ s', Moved (S :: wr) G s s' → SetS w s'.heap S (gotS (ns.drop i) l) → R (.ok (.ret .none)) s') →
      codeAny (model P w) A (.builtin "set.update.loop" ⟨[.ref S, .ref I], []⟩) R s := by
  have hSw : S ∉ wr := fun h => hSf (W.sub _ h)
  have hsub : ∀ b ∈ wr, b ∈ S :: wr := fun b hb => List.mem_cons_of_mem _ hb
  intro k
  induction k with
  | zero =>
    intro i s l hk' hi hst hS hb hR
    have hin : i = n := by omega
    subst hin
    refine codeAny_builtin F.entry_set_update_loop ?_
    rw [Around.under_plainId F.plain_set_update_loop _]
    show wpAny _ A.in1 (pyNext (.ref I) >>= _) _ _ s
    refine wpAny_bind (W.done s _ _ hst fun s' hm => ?_)
    show wpAny _ A.in1 (ret Value.none) _ _ s'
    have e : ns.drop i = [] := List.drop_of_length_le (by omega)
    rw [e] at hR
    exact wpAny_pure (hR s' (hm.mono hsub) (hS.at fun o e => hm.heap S o hSw e))
  | succ k ih =>
    intro i s l hk' hi hst hS hb hR
    have hlt : i < n := by omega
    refine codeAny_builtin F.entry_set_update_loop ?_
    rw [Around.under_plainId F.plain_set_update_loop _]
    show wpAny _ A.in1 (pyNext (.ref I) >>= _) _ _ s
    refine wpAny_bind (W.item i s _ _ hlt hst fun v s' hP hst' hm => ?_)
    obtain ⟨z, t, hz, rfl⟩ := hval i v hP
    have hS' : SetS w s'.heap S l := hS.at fun o e => hm.heap S o hSw e
    have ed : ns.drop i = z :: ns.drop (i + 1) := by
      have h1 : i < ns.length := by omega
      rw [List.drop_eq_getElem_cons h1]
      congr 1
      rw [List.getElem?_eq_getElem h1] at hz
      exact Option.some.inj hz
    rw [ed] at hR
    show wpAny _ A.in1 (holding [Value.str z t] (setAdd S (.str z t)) >>= _) _ _ s'
    refine wpAny_bind (wpAny_holding ?_)
    unfold setAdd
    refine wpAny_holding ?_
    have hkey : (strKind P w).is z (.str z t) = true := by
      show Value.isStrOf z (.str z t) = true
      simp [Value.isStrOf]
    refine wpAny_bind ((strKind P w).pyHash (k := z) hkey ?_)
    refine addS_hashed (s := { s' with toks := s'.toks + 1 }) hS' (by omega) fun h' hsb hS2 => ?_
    have hl2 : (if z ∈ l then l else z :: l).length ≤ l.length + 1 := by split <;> simp
    refine wpAny_pure ⟨plainId_quiet F.plain_set_update_loop _, ih (i + 1) _ _ (by omega) hlt (W.frame _ s' _ _ hst' (Nat.le_succ _) fun b hb o e => ?_) hS2 (by omega) fun s'' hm'' hS'' => ?_⟩
    · rw [hsb.2 b (fun h : b = S => hSf (by rw [← h]; exact hb))]; exact e
    · refine hR s'' (Moved.trans W.gtrans ((hm.mono hsub).then_heap (Nat.le_succ _) fun b o hb e => ?_) hm'') hS''
      rw [hsb.2 b (fun h : b = S => hb (by rw [h]; exact List.mem_cons_self))]; exact e
set_option maxRecDepth 100000 in
set_option maxHeartbeats 3200000 in
/-- set(xs), xs a list of texts -/
theorem callS_list {c : Addr} {items : Array Value} (ns : List Str) {Q : Value → Shared → Prop} (hh : A.handled = none) (hl : s.heap.IsList c items) (hit : StrsAre items.toList ns) (hb : ns.length + 2 < scanBound)
    (h : ∀ (h' : Heap) (tk : Nat), SetS w h' s.heap.objs.size (gotS ns []) → (∀ b o, s.heap.get? b = some o → h'.get? b = some o) → Q (.ref s.heap.objs.size) { s with heap := h', toks := tk }) :
    wpAny (model P w) A (call (.type "set") [.ref c]) Q E s := by
  have isz : items.size = ns.length := by rw [← Array.length_toList]; exact StrsAre.len_eq hit
  obtain ⟨c0, tl, hmro⟩ := F.called_set.mro
  have hmade := F.called_set.made
  have hsub := F.called_set.sub
  refine wpAny_call (codeAny_of_tree ?_)
  show wpAny _ _ (callAny (.type "set") _) _ _ _
  refine wpAny_pure ⟨Code.quiet_builtin _ (by decide +kernel), codeAny_builtin F.entry_type_call ?_⟩
  rw [Around.under_plain (weight_type_call_type "set" [.ref c] []) rfl]
  have h1 := F.called_set.notType
  have h2 := F.called_set.canCreate
  have hct := F.typeCall_set_1 (.ref c)
  repeat (any_goals (first | assumption | wp_step))
  refine codeAny_mono (code_set_led1 (.ref c) (E := E) (Q₁ := fun obj s₁ => obj = .ref s.heap.objs.size ∧ s₁ = { s with heap := s.heap.push (newS w) }) ⟨rfl, rfl⟩) fun r s₁ hr => ?_
  cases r with
  | error e => exact hr
  | ok fl =>
    cases fl with
    | ret obj =>
      obtain ⟨rfl, rfl⟩ := hr
      have hS : (s.heap.push (newS w)).get? s.heap.objs.size = some (newS w) := Heap.get?_push_size _ rfl
      have hT : Shared.TypeIs { s with heap := s.heap.push (newS w) } (.ref s.heap.objs.size) "set" := ⟨_, hS, rfl⟩
      have hli := F.called_set.init.lookup
      have hbi := F.called_set.init.bind (.ref s.heap.objs.size)
      repeat (any_goals (first | assumption | wp_step))
      refine codeAny_mono (codeAny_call_builtin (R := wants (fun r s₂ => r = .none ∧ ∃ h' tk, s₂ = { s with heap := h', toks := tk } ∧ SetS w h' s.heap.objs.size (gotS ns []) ∧
          (∀ b o, s.heap.get? b = some o → h'.get? b = some o)) E) F.called_set.init.plain F.entry_set_init (check_set_init_1 hT ?_)) fun r₂ s₂ hr₂ => ?_
      · obtain ⟨ol, hol, hcl, nl, hdl⟩ := hl
        obtain ⟨ocls, odict, odata, oslots⟩ := ol
        simp only at hcl hdl
        subst hcl; subst hdl
        have hol' : (s.heap.push (newS w)).get? c = some { cls := .type "list", dict := odict, data := .seq items nl, slots := oslots } := Heap.get?_push_of_some _ hol
        have hsls := F.sub_list_set
        have hslf := F.sub_list_frozenset
        have hne : (Value.type "list" == Value.type "dict") = false := by decide
        have hl1 : (s.heap.push (newS w)).IsList c items := ⟨_, hol', rfl, nl, rfl⟩
        unfold Builtin.«set.__init__» noKeywords Builtin.Frozenset.updateFrom
        generalize hPI : pyIter = PI
        wp_walk
        subst hPI
        refine wpAny_pyIter_list (s := { s with heap := s.heap.push (newS w) }) hl1 ?_
        refine wpAny_bind (wpAny_runValue ?_)
        have hlS : c < s.heap.objs.size := Heap.lt_size hol
        have hh3 : A.in1.in1.in1.handled = none := by simp [hh]
        have hz1 : (s.heap.push (newS w)).objs.size = s.heap.objs.size + 1 := Heap.size_push ..
        have hneI : c ≠ (s.heap.push (newS w)).objs.size := by rw [hz1]; exact Nat.ne_of_lt (Nat.lt_succ_of_lt hlS)
        have hSf : s.heap.objs.size ∉ [(s.heap.push (newS w)).objs.size, c] := by
          rw [hz1]; simp only [List.mem_cons, List.not_mem_nil, or_false, not_or]
          exact ⟨Nat.ne_of_lt (Nat.lt_succ_self _), Nat.ne_of_gt hlS⟩
        have hval : ∀ (i : Nat) (v : Value), items[i]? = some v → ∃ k t, ns[i]? = some k ∧ v = .str k t := fun i v hv => by
          have hi : i < ns.length := by rw [← isz]; exact (Array.getElem?_eq_some_iff.mp hv).1
          obtain ⟨t, e⟩ := SS.strs_at hit i v (by rw [Array.getElem?_toList]; exact hv)
          refine ⟨ns[i], t, List.getElem?_eq_getElem hi, ?_⟩
          rw [e, List.getD_eq_getElem?_getD, List.getElem?_eq_getElem hi] <;> rfl
        refine updS_loop ((Walks.list hh3 _ c hneI items).toS) s.heap.objs.size hSf ns isz hval (items.size - 0) 0 _ [] (by omega) (Nat.zero_le _)
          ⟨⟨_, Heap.get?_push_size _ rfl, rfl, rfl⟩, (hl1.push _)⟩ ?hS0 (by rw [isz]; simp; omega) ?hR
        case hS0 =>
          refine setS_fresh ?_
          exact Heap.get?_push_of_some _ hS
        case hR =>
          intro s' hm hS'
          obtain ⟨h', g2, d', tk', os'⟩ := s'
          have eg : g2 = s.gens := hm.gens
          have ed : d' = s.drawn := hm.drawn
          have eo : os' = s.os := hm.os
          subst eg; subst ed; subst eo
          show wpAny _ _ _ _ _ _
          refine wpAny_pure ?_
          show wpAny _ _ (ret Value.none) _ _ _
          refine wpAny_pure ⟨rfl, h', tk', rfl, hS', fun b o e => ?_⟩
          have hb0 : b < s.heap.objs.size := Heap.lt_size e
          exact hm.heap b o (by rw [hz1]; simp only [List.mem_cons, List.not_mem_nil, or_false, not_or]; exact ⟨Nat.ne_of_lt hb0, Nat.ne_of_lt (Nat.lt_succ_of_lt hb0)⟩) (Heap.get?_push_of_some _ (Heap.get?_push_of_some _ e))
      · cases r₂ with
        | error e => exact hr₂
        | ok fl₂ =>
          cases fl₂ with
          | ret r =>
            obtain ⟨rfl, h', tk, rfl, hS', hk'⟩ := hr₂
            repeat (any_goals (first | assumption | wp_step))
            exact h _ _ hS' hk'
          | _ => exact hr₂.elim
    | _ => exact hr.elim
set_option maxRecDepth 100000 in
set_option maxHeartbeats 3200000 in
/-- set(xs), xs a tuple of texts -/
theorem callS_tuple {c : Addr} {items : Array Value} (ns : List Str) {Q : Value → Shared → Prop} (hh : A.handled = none) (hl : s.heap.IsTuple c items) (hit : StrsAre items.toList ns) (hb : ns.length + 2 < scanBound)
    (h : ∀ (h' : Heap) (tk : Nat), SetS w h' s.heap.objs.size (gotS ns []) → (∀ b o, s.heap.get? b = some o → h'.get? b = some o) → Q (.ref s.heap.objs.size) { s with heap := h', toks := tk }) :
    wpAny (model P w) A (call (.type "set") [.ref c]) Q E s := by
  have isz : items.size = ns.length := by rw [← Array.length_toList]; exact StrsAre.len_eq hit
  obtain ⟨c0, tl, hmro⟩ := F.called_set.mro
  have hmade := F.called_set.made
  have hsub := F.called_set.sub
  refine wpAny_call (codeAny_of_tree ?_)
  show wpAny _ _ (callAny (.type "set") _) _ _ _
  refine wpAny_pure ⟨Code.quiet_builtin _ (by decide +kernel), codeAny_builtin F.entry_type_call ?_⟩
  rw [Around.under_plain (weight_type_call_type "set" [.ref c] []) rfl]
  have h1 := F.called_set.notType
  have h2 := F.called_set.canCreate
  have hct := F.typeCall_set_1 (.ref c)
  repeat (any_goals (first | assumption | wp_step))
  refine codeAny_mono (code_set_led1 (.ref c) (E := E) (Q₁ := fun obj s₁ => obj = .ref s.heap.objs.size ∧ s₁ = { s with heap := s.heap.push (newS w) }) ⟨rfl, rfl⟩) fun r s₁ hr => ?_
  cases r with
  | error e => exact hr
  | ok fl =>
    cases fl with
    | ret obj =>
      obtain ⟨rfl, rfl⟩ := hr
      have hS : (s.heap.push (newS w)).get? s.heap.objs.size = some (newS w) := Heap.get?_push_size _ rfl
      have hT : Shared.TypeIs { s with heap := s.heap.push (newS w) } (.ref s.heap.objs.size) "set" := ⟨_, hS, rfl⟩
      have hli := F.called_set.init.lookup
      have hbi := F.called_set.init.bind (.ref s.heap.objs.size)
      repeat (any_goals (first | assumption | wp_step))
      refine codeAny_mono (codeAny_call_builtin (R := wants (fun r s₂ => r = .none ∧ ∃ h' tk, s₂ = { s with heap := h', toks := tk } ∧ SetS w h' s.heap.objs.size (gotS ns []) ∧
          (∀ b o, s.heap.get? b = some o → h'.get? b = some o)) E) F.called_set.init.plain F.entry_set_init (check_set_init_1 hT ?_)) fun r₂ s₂ hr₂ => ?_
      · obtain ⟨ol, hol, hcl, nl, hdl⟩ := hl
        obtain ⟨ocls, odict, odata, oslots⟩ := ol
        simp only at hcl hdl
        subst hcl; subst hdl
        have hol' : (s.heap.push (newS w)).get? c = some { cls := .type "tuple", dict := odict, data := .seq items nl, slots := oslots } := Heap.get?_push_of_some _ hol
        have hsls := F.sub_tuple_set
        have hslf := F.sub_tuple_frozenset
        have hne : (Value.type "tuple" == Value.type "dict") = false := by decide
        have hl1 : (s.heap.push (newS w)).IsTuple c items := ⟨_, hol', rfl, nl, rfl⟩
        unfold Builtin.«set.__init__» noKeywords Builtin.Frozenset.updateFrom
        generalize hPI : pyIter = PI
        wp_walk
        subst hPI
        refine wpAny_pyIter_tuple (s := { s with heap := s.heap.push (newS w) }) hl1 ?_
        refine wpAny_bind (wpAny_runValue ?_)
        have hlS : c < s.heap.objs.size := Heap.lt_size hol
        have hh3 : A.in1.in1.in1.handled = none := by simp [hh]
        have hz1 : (s.heap.push (newS w)).objs.size = s.heap.objs.size + 1 := Heap.size_push ..
        have hneI : c ≠ (s.heap.push (newS w)).objs.size := by rw [hz1]; exact Nat.ne_of_lt (Nat.lt_succ_of_lt hlS)
        have hSf : s.heap.objs.size ∉ [(s.heap.push (newS w)).objs.size, c] := by
          rw [hz1]; simp only [List.mem_cons, List.not_mem_nil, or_false, not_or]
          exact ⟨Nat.ne_of_lt (Nat.lt_succ_self _), Nat.ne_of_gt hlS⟩
        have hval : ∀ (i : Nat) (v : Value), items[i]? = some v → ∃ k t, ns[i]? = some k ∧ v = .str k t := fun i v hv => by
          have hi : i < ns.length := by rw [← isz]; exact (Array.getElem?_eq_some_iff.mp hv).1
          obtain ⟨t, e⟩ := SS.strs_at hit i v (by rw [Array.getElem?_toList]; exact hv)
          refine ⟨ns[i], t, List.getElem?_eq_getElem hi, ?_⟩
          rw [e, List.getD_eq_getElem?_getD, List.getElem?_eq_getElem hi] <;> rfl
        refine updS_loop ((Walks.tuple hh3 _ c hneI items).toS) s.heap.objs.size hSf ns isz hval (items.size - 0) 0 _ [] (by omega) (Nat.zero_le _)
          ⟨⟨_, Heap.get?_push_size _ rfl, rfl, rfl⟩, (hl1.push _)⟩ ?hS0 (by rw [isz]; simp; omega) ?hR
        case hS0 =>
          refine setS_fresh ?_
          exact Heap.get?_push_of_some _ hS
        case hR =>
          intro s' hm hS'
          obtain ⟨h', g2, d', tk', os'⟩ := s'
          have eg : g2 = s.gens := hm.gens
          have ed : d' = s.drawn := hm.drawn
          have eo : os' = s.os := hm.os
          subst eg; subst ed; subst eo
          show wpAny _ _ _ _ _ _
          refine wpAny_pure ?_
          show wpAny _ _ (ret Value.none) _ _ _
          refine wpAny_pure ⟨rfl, h', tk', rfl, hS', fun b o e => ?_⟩
          have hb0 : b < s.heap.objs.size := Heap.lt_size e
          exact hm.heap b o (by rw [hz1]; simp only [List.mem_cons, List.not_mem_nil, or_false, not_or]; exact ⟨Nat.ne_of_lt hb0, Nat.ne_of_lt (Nat.lt_succ_of_lt hb0)⟩) (Heap.get?_push_of_some _ (Heap.get?_push_of_some _ e))
      · cases r₂ with
        | error e => exact hr₂
        | ok fl₂ =>
          cases fl₂ with
          | ret r =>
            obtain ⟨rfl, h', tk, rfl, hS', hk'⟩ := hr₂
            repeat (any_goals (first | assumption | wp_step))
            exact h _ _ hS' hk'
          | _ => exact hr₂.elim
    | _ => exact hr.elim
end
end Tku
/-! TK: sets of texts, part 2: |, sorted. Own work. -/
namespace Tku
open PySem PySem.Spec PyProof.Rows L2
open TK (gotS)
theorem fm_range {α : Type} : ∀ l : List α, (List.range l.length).filterMap (fun i => l[i]?) = l
  | [] => rfl
  | x :: l => by
    have ih := fm_range l
    rw [List.length_cons, List.range_succ_eq_map]
    simp only [List.filterMap_cons, List.getElem?_cons_zero, List.filterMap_map, Function.comp_def, Nat.succ_eq_add_one, List.getElem?_cons_succ]
    rw [ih]
theorem order_perm {α : Type} {es : Array α} {order : Array Nat} (hp : order.toList.Perm (List.range es.size)) : (order.filterMap fun i => es[i]?).toList.Perm es.toList := by
  rw [Array.toList_filterMap]
  have e := fm_range es.toList
  have q := hp.filterMap fun i => es[i]?
  refine q.trans ?_
  have e2 : (fun i => es[i]?) = fun i => es.toList[i]? := funext fun i => by rw [Array.getElem?_toList]
  rw [e2, ← Array.length_toList, e]
theorem laid_ok (f m : Nat) (led plain : Bool) {hs : Array Int} (hn : hs.size ≤ 7) : ∃ t order, SetTable.laid 7 f m led plain hs = some (t, order) ∧ order.toList.Perm (List.range hs.size) ∧ Ris t.place.toList ∧ t.place.size = hs.size ∧ t.mask = 7 ∧ t.dummies = #[] ∧ t.led = led := by
  obtain ⟨t', order, e, p, T, m1, l1, p1, d1⟩ := relaid_ok { mask := 7, place := #[], dummies := #[], finger := f, led, moves := m, plain } (wanted := 0) (M := 7) (by decide +kernel) (.inl rfl) hn
  refine ⟨t', order, ?_, p, T.ris, ?_, m1, T.dm, l1⟩
  · have z : SetTable.sizeAbove 0 - 1 = 7 := by decide +kernel
    unfold SetTable.relaid at e
    rw [z] at e
    exact e
  · rw [T.sz, List.length_map, p.length_eq, List.length_range]
/-- with what is known of the table -/
def SetM (w : World) (h : Heap) (a : Addr) (l : List Str) : Prop :=
  ∃ o es ep t, h.get? a = some o ∧ o.ExactSet ∧ o.data = .set es ep t ∧ (∀ e ∈ es.toList, OkS w e) ∧ (es.toList.map kyS).Nodup ∧ (es.toList.map kyS).Perm l ∧ es.size < scanBound ∧ t.fits es.size = true ∧
    Ris t.place.toList ∧ (w.params.followText "set-order" = true ∨ t.led = true) ∧ t.mask = 7 ∧ t.dummies = #[]
section
variable {P : Program} {w : World} {A : Around} {E : Value → Shared → Prop} {s : Shared} {a p b : Addr} {l : List Str}
theorem SetM.toS {h : Heap} (R : SetM w h a l) : SetS w h a l := by
  obtain ⟨o, es, ep, t, h1, h2, h3, h4, h5, h6, h7, h8, h9, h10, _⟩ := R
  exact ⟨o, es, ep, t, h1, h2, h3, h4, h5, h6, h7, h8, h9, h10⟩
theorem merge_fresh {each : Sem Unit} {Q : Unit → Shared → Prop} (ho : s.heap.get? p = some (newS w)) (Rb : SetS w s.heap b l) (h1 : l ≠ []) (h4 : l.length ≤ 4) (hne : p ≠ b)
    (hQ : ∀ h', Heap.SameBut p s.heap h' → SetM w h' p l → Q () { s with heap := h' }) : wpAny (model P w) A (setMerge p b each) Q E s := by
  obtain ⟨o, es, ep, t, hb, hx, hd, g, nd, hm, hsz, hf, hr, hl⟩ := Rb
  have hn : es.size = l.length := by
    have e2 := hm.length_eq
    rw [List.length_map, Array.length_toList] at e2
    exact e2
  have hp0 : 0 < es.size := by rw [hn]; exact List.length_pos_iff.mpr h1
  have e0 : (p == b) = false := beq_eq_false_iff_ne.mpr hne
  have e1 : es.isEmpty = false := by
    rw [Array.isEmpty_eq_false_iff]
    intro z; rw [z] at hp0; exact absurd hp0 (by simp)
  have efr : (SetTable.fresh 0 0 (!w.params.followText "set-order")).roomFor es.size = none := by
    show (if (0 + es.size) * 5 ≥ 7 * 3 then some ((0 + es.size) * 2) else none) = none
    rw [if_neg (by omega)]
  unfold setMerge
  simp only [e0, Bool.false_eq_true, if_false]
  refine wpAny_bind (wpAny_setState_of hb hd hf ?_)
  dsimp only
  simp only [e1, Bool.false_eq_true, if_false]
  refine wpAny_bind ?_
  unfold setRoomFor
  refine wpAny_bind (wpAny_setState_of ho rfl (by rfl) ?_)
  dsimp only
  rw [efr]
  refine wpAny_pure ?_
  refine wpAny_bind (wpAny_setState_of ho rfl (by rfl) ?_)
  dsimp only
  have hfb : (w.params.followText "set-order" = true ∨ ((SetTable.fresh 0 0 !w.params.followText "set-order").led && t.led) = true) := by
    cases hb : w.params.followText "set-order" with
    | true => exact .inl rfl
    | false =>
      have := hl.resolve_left (by rw [hb]; exact Bool.false_ne_true)
      exact .inr (by rw [this]; rfl)
  cases hroad : (SetTable.fresh 0 0 !w.params.followText "set-order").road t with
  | slotForSlot =>
    dsimp only
    have hc : t.mask = 7 ∧ t.dummies = #[] := by
      unfold SetTable.road at hroad
      rw [show (SetTable.fresh 0 0 !w.params.followText "set-order").fill = 0 from rfl, if_neg (show ¬ ((0 : Nat) != 0) = true by decide)] at hroad
      split at hroad
      · rename_i c
        rw [Bool.and_eq_true] at c
        exact ⟨(beq_iff_eq.mp c.1).symm, by simpa using c.2⟩
      · cases hroad
    refine wpAny_storeSet_of ho rfl (hQ _ (Heap.SameBut.update s.heap p _) ?_) (fits_of_scanBound hsz)
    refine ⟨_, es, _, _, store_at (o := newS w) ho rfl, ⟨rfl, rfl, rfl⟩, rfl, g, nd, hm, hsz, ?_, hr, hfb, hc.1, hc.2⟩
    exact hf
  | clean =>
    dsimp only
    obtain ⟨t', order, e, pm, r1, s1, m1, d1, l1⟩ := laid_ok (SetTable.fresh 0 0 !w.params.followText "set-order").finger (SetTable.fresh 0 0 !w.params.followText "set-order").moves
      ((SetTable.fresh 0 0 !w.params.followText "set-order").led && t.led) ((SetTable.fresh 0 0 !w.params.followText "set-order").plain && t.plain) (hs := Array.map (fun x => x.fst) es) (by rw [Array.size_map]; omega)
    rw [Array.size_map] at pm s1
    have pe := order_perm pm
    have sz2 : (order.filterMap fun i => es[i]?).size = es.size := by rw [← Array.length_toList, pe.length_eq, Array.length_toList]
    have e' : SetTable.laid (SetTable.fresh 0 0 !w.params.followText "set-order").mask (SetTable.fresh 0 0 !w.params.followText "set-order").finger (SetTable.fresh 0 0 !w.params.followText "set-order").moves
      ((SetTable.fresh 0 0 !w.params.followText "set-order").led && t.led) ((SetTable.fresh 0 0 !w.params.followText "set-order").plain && t.plain) (Array.map (fun x => x.fst) es) = some (t', order) := e
    rw [e']
    refine wpAny_bind ?_
    wp_delta
    rw [if_neg (by rw [sz2]; simp)]
    refine wpAny_pure ?_
    have hsz2 : (order.filterMap fun i => es[i]?).size < scanBound := by rw [sz2]; exact hsz
    refine wpAny_storeSet_of ho rfl (hQ _ (Heap.SameBut.update s.heap p _) ?_) (fits_of_scanBound hsz2)
    refine ⟨_, _, _, _, store_at (o := newS w) ho rfl, ⟨rfl, rfl, rfl⟩, rfl, fun e he => g e (pe.mem_iff.mp he), (pe.map kyS).nodup_iff.mpr nd, (pe.map kyS).trans hm, hsz2, ?_, r1, by rw [l1]; exact hfb, m1, d1⟩
    unfold SetTable.fits SetTable.fill
    rw [sz2, s1, m1, d1]
    simp
    omega
  | oneByOne =>
    unfold SetTable.road at hroad
    rw [show (SetTable.fresh 0 0 !w.params.followText "set-order").fill = 0 from rfl, if_neg (show ¬ ((0 : Nat) != 0) = true by decide)] at hroad
    split at hroad <;> cases hroad
theorem setWalk_one {es : Array (Int × Value)} {ep : Nat} {t : SetTable} {o : Obj} {others : List Addr} {fl : Option Addr} {Q : Array (Int × Value) → Shared → Prop} (ho : s.heap.get? a = some o) (hd : o.data = .set es ep t) (hf : t.fits es.size = true) (h1 : es.size = 1)
    (h : Q es s) : wpAny (model P w) A (setWalkUnseen a others fl) Q E s := by
  unfold setWalkUnseen
  refine wpAny_bind (wpAny_setState_of ho hd hf ?_)
  dsimp only
  refine wpAny_bind (wpAny_byText ?_)
  have hc : ((w.params.followText "set-order" || (t.led && t.plain)) || decide (es.size ≤ 1)) = true := by rw [h1]; simp
  refine wp_if_pos hc ?_
  unfold setWalk
  refine wpAny_bind (wpAny_setState_of ho hd hf ?_)
  dsimp only
  refine wpAny_bind (wpAny_byText ?_)
  have pick : pickOrder (w.params.setOrder a ep) es = es := by
    have pm := pick_perm (w.params.setOrder a ep) es
    obtain ⟨x, hx⟩ : ∃ x, es.toList = [x] := List.length_eq_one_iff.mp (by rw [Array.length_toList]; exact h1)
    rw [hx] at pm
    have := List.perm_singleton.mp pm
    apply Array.ext'
    rw [this, hx]
  cases hb : w.params.followText "set-order" with
  | true =>
    refine wp_if_pos rfl ?_
    refine wpAny_bind (wpAny_askSetting (wpAny_pure ?_))
    have h' : Q (pickOrder (w.params.setOrder a ep) es) s := by rw [pick]; exact h
    exact h'
  | false =>
    refine wp_if_neg (by simp) ?_
    refine wp_if_neg (by
      show ¬ (!t.plain && decide (es.size > 1)) = true
      rw [h1]; simp) ?_
    refine wpAny_bind ?_
    wp_delta
    refine wp_if_neg (by rw [h1]; simp) ?_
    exact wpAny_pure (wpAny_pure h)
theorem merge_one {id : String} {ep : Nat} {k : Str} {Q : Unit → Shared → Prop} (Rp : SetM w s.heap p l) (h0 : l ≠ []) (h3 : l.length ≤ 3) (Rb : SetS w s.heap b [k]) (hne : p ≠ b)
    (hep : ∀ o es e t, s.heap.get? b = some o → o.data = .set es e t → e = ep)
    (hQ : ∀ h', Heap.SameBut p s.heap h' → SetS w h' p (if k ∈ l then l else k :: l) → Q () { s with heap := h' }) : wpAny (model P w) A (setMerge p b (Builtin.Frozenset.unchanged id b ep)) Q E s := by
  obtain ⟨o, es, ep2, t, hb, hx, hd, g, nd, hm, hsz, hf, hr, hl⟩ := Rb
  have Rp' := Rp.toS
  obtain ⟨po, pes, pep, pt, ph, px, pd, pg, pnd, pm, psz, pf, pr, pl, p7, pdm⟩ := Rp
  have ee := hep _ _ _ _ hb hd
  subst ee
  have hn : es.size = 1 := by
    have e2 := hm.length_eq
    rw [List.length_map, Array.length_toList] at e2
    exact e2
  have pn : pes.size = l.length := by
    have e2 := pm.length_eq
    rw [List.length_map, Array.length_toList] at e2
    exact e2
  have l0 : 0 < l.length := List.length_pos_iff.mpr h0
  have pfill : pt.fill = l.length := by
    unfold SetTable.fits at pf
    rw [Bool.and_eq_true, beq_iff_eq] at pf
    unfold SetTable.fill
    rw [pf.1, pdm, pn]
    rfl
  obtain ⟨e, he⟩ : ∃ e, es.toList = [e] := List.length_eq_one_iff.mp (by rw [Array.length_toList]; exact hn)
  have hes : es = #[e] := by apply Array.ext'; rw [he]
  obtain ⟨k', tk, e1, e2⟩ := g e (by rw [he]; exact List.mem_cons_self)
  have ek : k' = k := by
    rw [he] at hm
    have := List.perm_singleton.mp hm
    have e4 : kyS e = k := by simpa using this
    unfold kyS at e4
    rw [e1] at e4
    exact e4
  subst ek
  obtain ⟨eh, ev⟩ := e
  simp only at e1 e2
  subst e1; subst e2
  have e0 : (p == b) = false := beq_eq_false_iff_ne.mpr hne
  have e1 : es.isEmpty = false := by rw [hes]; rfl
  have efr : pt.roomFor es.size = none := by
    unfold SetTable.roomFor
    rw [pfill, p7, hn, if_neg (by omega)]
  have erd : pt.road t = .oneByOne := by
    unfold SetTable.road
    rw [pfill, if_pos (by simp; omega)]
  unfold setMerge
  simp only [e0, Bool.false_eq_true, if_false]
  refine wpAny_bind (wpAny_setState_of hb hd hf ?_)
  dsimp only
  simp only [e1, Bool.false_eq_true, if_false]
  refine wpAny_bind ?_
  unfold setRoomFor
  refine wpAny_bind (wpAny_setState_of ph pd pf ?_)
  dsimp only
  rw [efr]
  refine wpAny_pure ?_
  refine wpAny_bind (wpAny_setState_of ph pd pf ?_)
  dsimp only
  rw [erd]
  dsimp only
  refine wpAny_bind (setWalk_one hb hd hf hn ?_)
  rw [hes]
  rw [← Array.forIn_toList]
  simp only [List.forIn_cons, List.forIn_nil]
  refine wpAny_bind (wpAny_bind (wpAny_bind (wpAny_holding ?_)))
  refine addS_hashed Rp' (by unfold scanBound; omega) fun h' sb S2 => ?_
  have hb' : h'.get? b = some o := (sb.2 b (fun z => hne z.symm)).trans hb
  refine wpAny_bind ?_
  unfold Builtin.Frozenset.unchanged
  refine wpAny_bind (wpAny_setEpoch_of (s := { s with heap := h' }) hb' hd hf ?_)
  rw [if_neg (by simp)]
  refine wpAny_pure ?_
  refine wpAny_bind (wpAny_setState_of (s := { s with heap := h' }) hb' hd hf ?_)
  rw [if_neg (by simp)]
  refine wpAny_pure ?_
  dsimp only
  refine wpAny_pure ?_
  exact wpAny_pure (hQ h' sb S2)
theorem entry_s_or : entryFor table "set.__or__" = some Builtin.«frozenset.__or__» :=
  entryFor_alias (id' := "frozenset.__or__") (by kernel_rfl) rfl (by decide +kernel) (by kernel_rfl)
theorem any_set {Q : Bool → Shared → Prop} (hT : s.TypeIs (.ref a) "set") (h : Q true s) : wpAny (model P w) A (Builtin.Frozenset.isAnySet (.ref a)) Q E s := by
  unfold Builtin.Frozenset.isAnySet
  show wpAny (model P w) A (isInstance (.ref a) (.type "set") >>= fun c => _) Q E s
  refine wpAny_bind (wpAny_isInstance (b := true) hT sub_set_self ?_)
  exact wpAny_pure h
/-- the copy of a set -/
theorem copy_set {Q : Value → Shared → Prop} (Ra : SetS w s.heap a l) (h4 : l.length ≤ 4)
    (hQ : ∀ h', (∀ c o, s.heap.get? c = some o → h'.get? c = some o) → s.heap.objs.size < h'.objs.size → (l = [] ∧ h'.get? s.heap.objs.size = some (newS w) ∨ l ≠ [] ∧ SetM w h' s.heap.objs.size l) → Q (.ref s.heap.objs.size) { s with heap := h' }) :
    wpAny (model P w) A (Builtin.Frozenset.copyOf a) Q E s := by
  unfold Builtin.Frozenset.copyOf
  refine wpAny_bind (m := Builtin.Frozenset.baseOf a) ?_
  unfold Builtin.Frozenset.baseOf
  refine wpAny_bind (wpAny_isInstance (b := true) Ra.type sub_set_self ?_)
  refine wpAny_pure ?_
  simp only [if_true]
  refine wpAny_bind ?_
  unfold newSet
  refine wpAny_bind (wpAny_byText ?_)
  dsimp only
  refine wpAny_newObj_type ?_
  refine wpAny_bind (m := Builtin.Frozenset.addrOf _) (wpAny_pure ?_)
  have hS : (s.heap.push (newS w)).get? s.heap.objs.size = some (newS w) := Heap.get?_push_size _ rfl
  have hne : s.heap.objs.size ≠ a := Nat.ne_of_gt Ra.lt
  have Ra' : SetS w (s.heap.push (newS w)) a l := Ra.at fun o e => Heap.get?_push_of_some _ e
  have hz : (s.heap.push (newS w)).objs.size = s.heap.objs.size + 1 := size_push' _ _
  show wpAny (model P w) A (setMerge s.heap.objs.size a (pure ()) >>= fun _ => pure (Value.ref s.heap.objs.size)) Q E { s with heap := s.heap.push (newS w) }
  by_cases h0 : l = []
  · refine wpAny_bind ?_
    obtain ⟨o, es, ep, t, hb, hx, hd, g, nd, hm, hsz, hf, hr, hl⟩ := Ra'
    have e1 : es.isEmpty = true := by
      rw [h0] at hm
      have := List.perm_nil.mp hm
      have e5 : es.toList = [] := List.map_eq_nil_iff.mp this
      rw [Array.isEmpty_iff]
      apply Array.ext'; rw [e5]
    have e0 : (s.heap.objs.size == a) = false := beq_eq_false_iff_ne.mpr hne
    unfold setMerge
    simp only [e0, Bool.false_eq_true, if_false]
    refine wpAny_bind (wpAny_setState_of (s := { s with heap := s.heap.push (newS w) }) hb hd hf ?_)
    dsimp only
    simp only [e1, if_true]
    refine wpAny_pure (wpAny_pure (hQ _ (fun c o e => Heap.get?_push_of_some _ e) (by rw [hz]; exact Nat.lt_succ_self _) (.inl ⟨h0, hS⟩)))
  · refine wpAny_bind (merge_fresh (s := { s with heap := s.heap.push (newS w) }) hS Ra' h0 h4 hne fun h' sb SM => wpAny_pure (hQ h' (fun c o e => ?_) ?_ (.inr ⟨h0, SM⟩)))
    · have hc : c < s.heap.objs.size := Heap.lt_size e
      exact (sb.2 c (Nat.ne_of_lt hc)).trans (Heap.get?_push_of_some _ e)
    · exact SM.toS.lt
theorem or_set {k : Str} {Q : Value → Shared → Prop} (Ra : SetS w s.heap a l) (h3 : l.length ≤ 3) (Rb : SetS w s.heap b [k]) (hne : a ≠ b)
    (hQ : ∀ h' q, s.heap.objs.size ≤ q → (∀ c o, s.heap.get? c = some o → h'.get? c = some o) → SetS w h' q (if k ∈ l then l else k :: l) → Q (.ref q) { s with heap := h' }) :
    wpAny (model P w) A (binaryOp .BitOr (.ref a) (.ref b)) Q E s := by
  refine wpAny_binaryOp_same Ra.type Rb.type F.fills_set_or F.slot_set_or (wpAny_call_entry F.slot_set_or Ra.type entry_s_or ?_ (F.args_set_or_2 _ _))
  unfold Builtin.«frozenset.__or__»
  wp_delta
  refine wpAny_bind (m := Builtin.Frozenset.slot1 "__or__" _) (wpAny_of_eq (a := (.ref a, .ref b)) (by rfl) ?_)
  dsimp only
  simp only [Bool.false_eq_true, if_false]
  refine wpAny_bind ?_
  show wpAny (model P w) A.in1 (Builtin.Frozenset.isAnySet (.ref a) >>= fun c => _) _ E s
  refine wpAny_bind (any_set Ra.type ?_)
  refine any_set Rb.type ?_
  refine wp_if_neg (by simp) ?_
  refine wpAny_bind (wpAny_pure ?_)
  refine wpAny_bind ?_
  wp_delta
  refine wpAny_bind (copy_set Ra (by omega) fun h' k1 z1 cs => ?_)
  have hbs : b < s.heap.objs.size := Rb.lt
  have hpb : s.heap.objs.size ≠ b := Nat.ne_of_gt hbs
  have e0 : (Value.ref b != Value.ref a) = true := by
    rw [bne_iff_ne]
    intro z; cases z; exact hne rfl
  rw [e0]
  refine wp_if_pos rfl ?_
  refine wpAny_bind (m := Builtin.Frozenset.addrOf _) (wpAny_pure ?_)
  refine wpAny_bind (wpAny_holding ?_)
  have Rb' : SetS w h' b [k] := Rb.at (k1 b)
  unfold Builtin.Frozenset.updateFrom
  refine wpAny_bind (any_set (s := { s with heap := h' }) Rb'.type ?_)
  refine wp_if_pos rfl ?_
  refine wpAny_bind (m := Builtin.Frozenset.addrOf _) (wpAny_pure ?_)
  unfold Builtin.Frozenset.merge
  obtain ⟨o, es, ep, t, hb, hx, hd, g, nd, hm, hsz, hf, hr, hl⟩ := id Rb'
  refine wpAny_bind (wpAny_setEpoch_of (s := { s with heap := h' }) hb hd hf ?_)
  have fin : ∀ h2, Heap.SameBut s.heap.objs.size h' h2 → SetS w h2 s.heap.objs.size (if k ∈ l then l else k :: l) → Q (.ref s.heap.objs.size) { s with heap := h2 } := fun h2 sb S2 =>
    hQ h2 _ (Nat.le_refl _) (fun c o e => (sb.2 c (Nat.ne_of_lt (Heap.lt_size e))).trans (k1 c o e)) S2
  rcases cs with ⟨rfl, hS⟩ | ⟨h0, SM⟩
  · refine merge_fresh (s := { s with heap := h' }) hS Rb' (by simp) (by simp) hpb fun h2 sb S2 => ?_
    exact wpAny_pure (wpAny_pure ⟨_, rfl, by simp, fin h2 sb S2.toS⟩)
  · refine merge_one (s := { s with heap := h' }) SM h0 h3 Rb' hpb (fun o2 es2 e2 t2 q1 q2 => ?_) fun h2 sb S2 => ?_
    · rw [hb] at q1
      cases q1
      rw [hd] at q2
      cases q2
      rfl
    · exact wpAny_pure (wpAny_pure ⟨_, rfl, by simp, fin h2 sb S2⟩)
end
end Tku
/-! TK: sets of texts, part 3: over the layer. Own work. -/
namespace Tku
open PySem PySem.Spec PyProof.Rows L2
open TK (gotS)
def SetO (w : World) (a : Addr) (l : List Str) : HO := .ext fun h => SetS w h a l
section
variable {X : Cx}
theorem setO_ok {w : World} {P : Program} {H : Hp} {h : Heap} {a : Addr} {l : List Str} (R : SetS w h a l) : ObjOk P w H h a (SetO w a l) := by
  have ⟨o, _, _, _, ho, _⟩ := R
  exact ⟨R, ⟨o, ho⟩, fun h1 h2 p k => SetS.at p k⟩
theorem setO_at {pins : List (Addr × Obj)} {σ : L2.St} {H : Hp} {s : Shared} {a : Addr} {l : List Str} (I : Inv X pins σ H s) (ha : H a = some (SetO X.w a l)) : SetS X.w s.heap a l := (I.hok a _ ha).1
/-- set(xs) -/
def rSetOf (K : PySem.W.Frag) (w : World) : List V → Hp → VK → Prop := fun xs H Q => ∃ (c : Addr) (ns : List Str), xs = [V.ref c] ∧ (SqL K H c (ns.map V.str) ∨ SqT K H c (ns.map V.str)) ∧ ns.length < 1000 ∧ ∀ p, H p = none → Q (.ref p) (upd H p (SetO w p (gotS ns [])))
theorem cr_setOf (hc : X.calm = true) : CallR X (.type "set") (rSetOf X.K X.w) := by
  intro pins s σ H xs us Q I r h
  obtain ⟨c, ns, rfl, hs, hl, q⟩ := h
  rw [Vals.ref1 r]
  have big : ns.length + 2 < scanBound := by unfold scanBound; omega
  have fin : ∀ (h' : Heap) (tk : Nat), SetS X.w h' s.heap.objs.size (gotS ns []) → (∀ b o, s.heap.get? b = some o → h'.get? b = some o) → ∃ v H', Inv X pins σ H' { s with heap := h', toks := tk } ∧ RelV v (.ref s.heap.objs.size) ∧ Q v H' := fun h' tk R k =>
    ⟨.ref s.heap.objs.size, upd H s.heap.objs.size (SetO X.w s.heap.objs.size (gotS ns [])), I.laid k (Nat.le_refl _) (setO_ok R), rfl, q _ (I.hok.fresh (Nat.le_refl _))⟩
  rcases hs with hs | hs
  · obtain ⟨its, rv, hl, _⟩ := I.list hs
    exact callS_list ns (I.ok.hd hc) hl.isList (by simpa using rv.strs) big fun h' tk R k => fin h' tk R k
  · obtain ⟨its, rv, hl, _⟩ := I.tuple hs
    exact callS_tuple ns (I.ok.hd hc) hl (by simpa using rv.strs) big fun h' tk R k => fin h' tk R k
/-- a | b, b of one -/
def rSetOr (w : World) : V → V → Hp → VK → Prop := fun x y H Q => ∃ (a b : Addr) (l : List Str) (k : Str), x = .ref a ∧ y = .ref b ∧ H a = some (SetO w a l) ∧ H b = some (SetO w b [k]) ∧ a ≠ b ∧ l.length ≤ 3 ∧ ∀ p, H p = none → Q (.ref p) (upd H p (SetO w p (if k ∈ l then l else k :: l)))
theorem op_setOr : OpR X (binaryOp .BitOr) (rSetOr X.w) := by
  intro pins s σ H x y v u Q I rx ry h
  obtain ⟨a, b, l, k, rfl, rfl, ha, hb, hne, h3, q⟩ := h
  cases rx; cases ry
  refine or_set (setO_at I ha) h3 (setO_at I hb) hne fun h' p hp kk R => ?_
  exact ⟨.ref p, upd H p (SetO X.w p (if k ∈ l then l else k :: l)), I.laid (t' := s.toks) kk hp (setO_ok R), rfl, q _ (I.hok.fresh hp)⟩
/-- sorted(a) -/
def rSetSort (w : World) : List V → Hp → VK → Prop := fun vs H Q => ∃ (a : Addr) (l : List Str), vs = [V.ref a] ∧ H a = some (SetO w a l) ∧ l.length < 64 ∧ ∀ p, H p = none → Q (.ref p) (upd H p (.lst ((TK.sortS l).map V.str)))
theorem strs_of : ∀ (l : List Value), (∀ v ∈ l, ∃ k tk, v = Value.str k tk) → ∀ ks : List Str, ks = l.map (fun v => match v with | .str k _ => k | _ => Str.empty) → StrsAre l ks
  | [], _, ks, e => by subst e; exact .nil
  | v :: l, h, ks, e => by
    obtain ⟨k, tk, rfl⟩ := h v List.mem_cons_self
    subst e
    exact .cons k tk (strs_of l (fun u hu => h u (List.mem_cons_of_mem _ hu)) _ rfl)
theorem cr_setSort (hc : X.calm = true) : CallR X (.builtin "sorted") (rSetSort X.w) := by
  intro pins s σ H vs us Q I r h
  obtain ⟨a, l, rfl, ha, h64, q⟩ := h
  rw [Vals.ref1 r]
  obtain ⟨o, es, ep, t, ho, hex, hd, g, nd, hm, hb, hf, hr, hl⟩ := setO_at I ha
  refine Calls.call_function_entry kind_sorted plain_sorted entry_sorted (args_sorted1 _) ?_
  unfold Builtin.«sorted»
  refine wpAny_bind (m := checkCount "sorted" 1 1 _) (wpAny_pure ?_)
  refine wpAny_bind (collect_set (A := X.A.in1) (I.ok.hd hc) ⟨o, ho, hex.1, hd⟩ hf hb hr hl fun s1 vs k1 hz g1 o1 pm => ?_)
  have hS : StrsAre vs (vs.map fun v => match v with | .str k _ => k | _ => Str.empty) := strs_of vs (fun v hv => by
    obtain ⟨e, he, z⟩ := List.mem_map.mp (pm.mem_iff.mp hv)
    obtain ⟨k, tk, h1, _⟩ := g e he
    exact ⟨k, tk, by rw [← z]; exact h1⟩) _ rfl
  have pk : (vs.map fun v => match v with | .str k _ => k | _ => Str.empty).Perm l := by
    have z := pm.map fun v => match v with | .str k _ => k | _ => Str.empty
    rw [List.map_map] at z
    exact z.trans hm
  generalize (vs.map fun v => match v with | .str k _ => k | _ => Str.empty) = ks at hS pk
  have hvl : vs.length = l.length := by rw [StrsAre.len_eq hS, pk.length_eq]
  refine wpAny_bind (wpAny_newList ?_ (by rw [hvl, sizeLine_eq]; omega))
  have hoL : (s1.heap.push (seqObj "list" vs.toArray 0)).get? s1.heap.objs.size = some (seqObj "list" vs.toArray 0) := Heap.get?_push_size _ rfl
  refine wpAny_bind (wpAny_holding (wpAny_call_entry slot_list_sort ⟨_, hoL, rfl⟩ entry_list_sort
    (list_sort_treeK strKind_oneLt (s := { s1 with heap := s1.heap.push (seqObj "list" vs.toArray 0) }) hoL hS.keysOf (fun v₁ v₂ rest e => keyKind_strs (by rw [← e]; exact hS)) (by rw [hvl]; exact h64) fun st' hp hs => ⟨_, rfl, ?_⟩) (args_list_sort _)))
  obtain ⟨ys, e1, e2, e3⟩ := sorted_out_str hS hp hs
  obtain ⟨ep', at2⟩ := sortedHeap_at (vs := vs) (out := (arrOf st').map (·.2)) hoL
  have ey : ys = TK.sortS l := TK.sortS_eq (e2.trans pk) e3
  subst ey
  have few : ((TK.sortS l).map V.str).length ≤ sizeLine := by
    rw [List.length_map, e2.length_eq, pk.length_eq, sizeLine_eq]; omega
  have old : ∀ b u, s.heap.get? b = some u → (sortedHeap (s1.heap.push (seqObj "list" vs.toArray 0)) s1.heap.objs.size vs ((arrOf st').map (·.2))).get? b = some u := fun b u e => by
    have z := k1 b u e
    have hlt := Heap.lt_size z
    rw [sortedHeap_old (Nat.ne_of_lt hlt) (by rw [size_push']; exact Nat.lt_succ_of_lt hlt)]
    exact Heap.get?_push_of_some _ z
  have hn : H s1.heap.objs.size = none := I.hok.fresh hz
  have ook : ObjOk X.prog X.w (upd H s1.heap.objs.size (.lst ((TK.sortS l).map V.str))) (sortedHeap (s1.heap.push (seqObj "list" vs.toArray 0)) s1.heap.objs.size vs ((arrOf st').map (·.2))) s1.heap.objs.size (.lst ((TK.sortS l).map V.str)) :=
    ⟨few, ((arrOf st').map (·.2)).toList, ep', vals_of_strs e1, by rw [Array.toArray_toList]; exact at2⟩
  have J : Inv X pins σ (upd H s1.heap.objs.size (.lst ((TK.sortS l).map V.str))) { s with heap := sortedHeap (s1.heap.push (seqObj "list" vs.toArray 0)) s1.heap.objs.size vs ((arrOf st').map (·.2)), gens := s1.gens, drawn := s1.drawn, toks := s1.toks } :=
    I.call (ch := []) (Un.laid old hz hn) (I.hok.laid old hz ook) (by rw [g1]; exact I.bare) (fun _ z => nomatch z)
  have es1 : ({ s1 with heap := sortedHeap (s1.heap.push (seqObj "list" vs.toArray 0)) s1.heap.objs.size vs ((arrOf st').map (·.2)) } : Shared) = { s with heap := sortedHeap (s1.heap.push (seqObj "list" vs.toArray 0)) s1.heap.objs.size vs ((arrOf st').map (·.2)), gens := s1.gens, drawn := s1.drawn, toks := s1.toks } := by
    cases s1; cases s; cases o1; rfl
  refine wpAny_pure ⟨_, rfl, ?_⟩
  rw [es1]
  exact ⟨.ref _, _, J, rfl, q _ hn⟩
end
end Tku
/-! TK, part 11b: sorted(set(a)), sorted(set(a) | set(b)). Own work. -/
namespace TK
open PySem L2
section
variable {X : Cx} {cA : Nat → Addr} {G : Sig} {cl : Cl} {L Lb Lc : LK}
variable {r r' r1 r2 r3 : Env} {p p' p1 p2 : Nat → List Addr} {S S' S1 S2 H H' H1 H2 : Hp} {F F1 F2 : List Addr} {s : St} {Q : VK}
theorem sortS_congr {l m : List Str} (h : l.Perm m) : sortS l = sortS m :=
  List.Perm.eq_of_pairwise (fun a b _ _ => leS_anti) (sortS_pair l) (sortS_pair m) ((sortS_perm l).trans (h.trans (sortS_perm m).symm))
theorem gotS_sorted {ys : List Str} (h : ys.Nodup) : (gotS ys []).Perm ys := by
  refine (List.perm_ext_iff_of_nodup (Tku.gotS_nodup ys [] List.nodup_nil) h).mpr fun a => ?_
  rw [Tku.gotS_mem]
  simp
/-- the state with one more object -/
theorem Stt.more {a : Addr} {o : HO} (st : Stt X.K cA S H r s p) (ha : H a = none) : Stt X.K cA S (upd H a o) r s p ∧ Same H (upd H a o) := by
  have hh : Same H (upd H a o) := fun b u e => by rw [upd_ne (ne_of_none e ha)]; exact e
  exact ⟨st.ext (fun _ _ e => e) hh (fun _ _ e => .inl e) fun b u e => hh b u (st.sub b u e), hh⟩
theorem strs_seq {d : D} {xs : List D} {ys : List Str} {v : V} (sub : Sub S H) (h1 : asSeq d = some xs) (h2 : strsOf xs = some ys) (rp : Rep X.K cA S H d v F) : ∃ c, v = .ref c ∧ (SqL X.K H c (ys.map V.str) ∨ SqT X.K H c (ys.map V.str)) := by
  obtain ⟨b, vs, G', rfl, q, rs⟩ := Rep.seqv sub h1 rp
  have ev := strsOf_reps h2 rs
  subst ev
  exact ⟨b, rfl, q⟩
/-- a list of texts, told -/
theorem Pr.strs {ys : List Str} {a : Addr} (sub : Sub S H) (h : Pr X.K cA S H (.ol (ys.map .str)) Q) (hh : Same H H1) (ha : H1 a = none) : Q (.ref a) (upd H1 a (.lst (ys.map V.str))) := by
  have hn : H a = none := by
    cases e : H a with
    | none => rfl
    | some o => rw [hh a o e] at ha; cases ha
  have h2 : Same H (upd H1 a (.lst (ys.map V.str))) := fun b u e => by rw [upd_ne (ne_of_none (hh b u e) ha)]; exact hh b u e
  have rs : ∀ zs : List Str, Reps X.K cA S (upd H1 a (.lst (ys.map V.str))) (zs.map .str) (zs.map V.str) [] := fun zs => by
    induction zs with
    | nil => exact .nil
    | cons z zs ih => exact .cons (F := []) (Fs := []) (.str z) ih
  refine h _ S (upd H1 a (.lst (ys.map V.str))) [a] (fun _ _ e => e) h2 (fun _ _ e => .inl e) (fun b u e => h2 b u (sub b u e)) (.ow (by decide) upd_same rfl (rs ys)) (by simp) fun b hb => ?_
  have : b = a := by simpa using hb
  subst this
  refine ⟨hn, ?_⟩
  cases e : S b with
  | none => rfl
  | some o => rw [sub b o e] at hn; cases hn
theorem e_ssort {a y : Expr} {xy : Ex} {f : Str} {pn pos : Pos} (hc : X.calm = true) (hy : setCall a = some y) (hf : f = "sorted") (hg : Gl X f) (hm : X.mg f = none) (hg2 : Gl X "set") (hm2 : X.mg "set" = none) (hs : noStar y = true) (h : OkE X cA G cl L y xy) :
    OkE X cA G cl L (.Call (.Name f pn) [a] [] pos) (.prim .ssort (Exs.of [xy])) := by
  subst hf
  obtain ⟨ps, pc, rfl⟩ : ∃ ps pc, a = .Call (.Name "set" ps) [y] [] pc := by
    unfold setCall at hy
    split at hy
    · split at hy
      · rename_i e; cases hy; exact ⟨_, _, by rw [e]⟩
      · cases hy
    · cases hy
  have inner := pe_callTy (Tku.cr_setOf hc) hg2 hm2 (by decide) (pa_cons h pa_nil (starEach_cons hs)) (by decide) (by decide) (starEach_cons (es := []) hs) rfl (p := ps) (pos := pc)
  refine PE.imp (pe_callB (Tku.cr_setSort hc) hg hm (by decide) (pa_cons inner pa_nil rfl) (by decide) (by decide) rfl rfl) fun s H Q ⟨S, r, p, x, r', st, e, k⟩ => ?_
  obtain ⟨ra, da, d, h1, h2, h3, rfl⟩ := prim1_inv e
  refine ⟨S, r, p, ra, r', st, h1, fun x S1 H1 p1 F1 st1 rr ef => ?_⟩
  obtain ⟨W, rp⟩ := RRep.get st1 rr h2
  simp only [P.ev] at h3
  split at h3
  · rename_i xs hx
    split at h3
    · rename_i ys hys
      split at h3
      · rename_i hl
        cases h3
        obtain ⟨c, rfl, q⟩ := strs_seq st1.sub hx hys rp
        refine ⟨c, ys, rfl, q, by omega, fun p2 hp2 => ?_⟩
        have gl := Tku.gotS_len ys []
        simp only [List.length_nil, Nat.zero_add] at gl
        refine ⟨p2, gotS ys [], rfl, upd_same, by omega, fun p3 hp3 => ?_⟩
        exact Pr.strs st1.sub (Pr.fin st1 ef k) (Stt.more st1 hp2).2 hp3
      · cases h3
    · cases h3
  · cases h3
theorem e_usort {a y z : Expr} {xy xz : Ex} {f : Str} {pn pos : Pos} (hc : X.calm = true) (hy : setOr a = some (y, z)) (hf : f = "sorted") (hg : Gl X f) (hm : X.mg f = none) (hg2 : Gl X "set") (hm2 : X.mg "set" = none) (hs : noStar y = true) (hs2 : noStar z = true) (h : OkE X cA G cl L y xy) (h' : OkE X cA G cl L z xz) :
    OkE X cA G cl L (.Call (.Name f pn) [a] [] pos) (.prim .usort (Exs.of [.prim .ssort (Exs.of [xy]), xz])) := by
  subst hf
  have sc : ∀ {u v : Expr}, setCall u = some v → ∃ ps pc, u = .Call (.Name "set" ps) [v] [] pc := fun {u v} e => by
    unfold setCall at e
    split at e
    · split at e
      · rename_i e2; cases e; exact ⟨_, _, by rw [e2]⟩
      · cases e
    · cases e
  obtain ⟨ps, pc, ps2, pc2, pb, rfl⟩ : ∃ ps pc ps2 pc2 pb, a = .BinOp (.Call (.Name "set" ps) [y] [] pc) .BitOr (.Call (.Name "set" ps2) [z] [] pc2) pb := by
    unfold setOr at hy
    split at hy
    · split at hy
      · rename_i e1 e2
        cases hy
        obtain ⟨ps, pc, rfl⟩ := sc e1
        obtain ⟨ps2, pc2, rfl⟩ := sc e2
        exact ⟨ps, pc, ps2, pc2, _, rfl⟩
      · cases hy
    · cases hy
  have in1 := pe_callTy (Tku.cr_setOf hc) hg2 hm2 (by decide) (pa_cons h pa_nil (starEach_cons hs)) (by decide) (by decide) (starEach_cons (es := []) hs) rfl (p := ps) (pos := pc)
  have in2 := pe_callTy (Tku.cr_setOf hc) hg2 hm2 (by decide) (pa_cons h' pa_nil (starEach_cons hs2)) (by decide) (by decide) (starEach_cons (es := []) hs2) rfl (p := ps2) (pos := pc2)
  refine PE.imp (pe_callB (Tku.cr_setSort hc) hg hm (by decide) (pa_cons (pe_op Tku.op_setOr in1 in2 (pos := pb)) pa_nil rfl) (by decide) (by decide) rfl rfl) fun s H Q ⟨S, r, p, x, r', st, e, k⟩ => ?_
  obtain ⟨ra, r1, rb, ds, d, g1, g2, g3, g4, rfl⟩ := prim2_inv e
  obtain ⟨rc, dc, dd, h1, h2, h3, rfl⟩ := prim1_inv g1
  refine ⟨S, r, p, rc, r1, st, h1, fun x S1 H1 p1 F1 st1 rr ef => ?_⟩
  obtain ⟨W, rp⟩ := RRep.get st1 rr h2
  simp only [P.ev] at h3
  split at h3
  case h_2 => cases h3
  rename_i xs hx
  split at h3
  case h_2 => cases h3
  rename_i ys hys
  split at h3
  case isFalse => cases h3
  rename_i hl
  cases h3
  obtain ⟨c, rfl, q⟩ := strs_seq st1.sub hx hys rp
  refine ⟨c, ys, rfl, q, by omega, fun a1 ha1 => ?_⟩
  obtain ⟨st1', same1⟩ := Stt.more (o := Tku.SetO X.w a1 (gotS ys [])) st1 ha1
  have e0 : Eff L r1 p1 S1 H1 r1 p1 [] S1 (upd H1 a1 (Tku.SetO X.w a1 (gotS ys []))) := Eff.ext (F := []) (fun _ _ e => e) same1 (fun _ _ e => .inl e) fun a ha => absurd ha (by simp)
  refine ⟨S1, r1, p1, rb, r', st1', g2, fun y2 S2 H2 p2 F2 st2 rr2 ef2 => ?_⟩
  obtain ⟨da, db, k1, k2, rfl⟩ := gets2 g3
  cases k1
  obtain ⟨W2, rp2⟩ := RRep.get st2 rr2 k2
  have ha12 : H2 a1 = some (Tku.SetO X.w a1 (gotS ys [])) := ef2.keep a1 _ upd_same fun i _ z => by
    obtain ⟨o, e⟩ := st1.there z
    rw [ha1] at e; cases e
  simp only [P.ev, asSeq] at g4
  split at g4
  case h_2 => cases g4
  rename_i xs2 zs e1 hz
  cases e1
  have ess : strsOf (List.map D.str (sortS (gotS ys []))) = some (sortS (gotS ys [])) := by
    generalize sortS (gotS ys []) = l
    induction l with
    | nil => rfl
    | cons u l ih => simp [strsOf, ih]
  rw [ess] at g4
  split at g4
  case h_2 => cases g4
  rename_i ys2 kk e1 hk
  cases e1
  split at g4
  case isFalse => cases g4
  rename_i hl2
  cases g4
  have nd1 : (gotS ys []).Nodup := Tku.gotS_nodup ys [] List.nodup_nil
  have nd2 : (sortS (gotS ys [])).Nodup := (sortS_perm _).nodup_iff.mpr nd1
  have pm : (gotS (sortS (gotS ys [])) []).Perm (gotS ys []) := (gotS_sorted nd2).trans (sortS_perm _)
  have l3 : (gotS ys []).length ≤ 3 := by rw [← pm.length_eq]; exact hl2.1
  obtain ⟨c2, rfl, q2⟩ := strs_seq st2.sub hz hk rp2
  refine ⟨c2, [kk], rfl, q2, by simp, fun a2 ha2 => ?_⟩
  have ne12 : a1 ≠ a2 := fun z => by rw [z] at ha12; rw [ha2] at ha12; cases ha12
  have same2 := (Stt.more (o := Tku.SetO X.w a2 (gotS [kk] [])) st2 ha2).2
  refine ⟨a1, a2, gotS ys [], kk, rfl, rfl, by rw [upd_ne ne12]; exact ha12, upd_same, ne12, l3, fun a3 ha3 => ?_⟩
  have same3 : Same (upd H2 a2 (Tku.SetO X.w a2 (gotS [kk] []))) (upd (upd H2 a2 (Tku.SetO X.w a2 (gotS [kk] []))) a3 (Tku.SetO X.w a3 (if kk ∈ gotS ys [] then gotS ys [] else kk :: gotS ys []))) := fun b u e => by rw [upd_ne (ne_of_none e ha3)]; exact e
  refine ⟨a3, _, rfl, upd_same, by split <;> (try rw [List.length_cons]) <;> omega, fun a4 ha4 => ?_⟩
  have eq : sortS (if kk ∈ gotS (sortS (gotS ys [])) [] then gotS (sortS (gotS ys [])) [] else kk :: gotS (sortS (gotS ys [])) []) = sortS (if kk ∈ gotS ys [] then gotS ys [] else kk :: gotS ys []) := by
    by_cases m : kk ∈ gotS ys []
    · rw [if_pos m, if_pos (pm.mem_iff.mpr m)]; exact sortS_congr pm
    · rw [if_neg m, if_neg fun z => m (pm.mem_iff.mp z)]; exact sortS_congr (pm.cons kk)
  rw [eq] at k
  have tot : Eff L r p S H r' p2 F2 S2 H2 := (((ef.trans e0).trans ef2).drop fun b hb => List.mem_append_right _ hb)
  exact Pr.strs st2.sub (Pr.fin st2 tot k) (fun b u e => same3 b u (same2 b u e)) ha4
end
end TK
/-! TK: enumerate of a tuple. Own work. -/
namespace Tku
open PySem PySem.Spec PyProof.Rows L2
open AutoSeq1 (wpAny_loadPart')
theorem new_enumT (c : Addr) (items : Array Value) (n : Nat) (dct : Option Addr) (sl : Array (Option Value)) :
    Meets (Builtin.«enumerate.__new__» ⟨[.type "enumerate", .ref c], []⟩) (fun _ R s => s.heap.get? c = some { cls := .type "tuple", dict := dct, data := .seq items n, slots := sl } ∧
      R (.ok (.ret (.ref (s.heap.push { cls := .type "tuple_iterator", data := .fields #[.ref c, .int 0 0] }).objs.size)))
        { s with heap := (s.heap.push { cls := .type "tuple_iterator", data := .fields #[.ref c, .int 0 0] }).push { cls := .type "enumerate", data := .fields #[.none, .bool false, .ref s.heap.objs.size, rawInt 0, .none, .none] } }) :=
  .of_wp fun prog w A R s h => by
    obtain ⟨hp, g, d, tk, os⟩ := s; obtain ⟨ht, h⟩ := h
    have hsub := sub_enumerate
    have hT : Heap.IsTuple (Shared.heap ⟨hp, g, d, tk, os⟩) c items := ⟨_, ht, rfl, n, rfl⟩
    wp_walk using wpAny_loadPart' ht
    refine wpAny_stack_any fun st => wpAny_pure ?_
    split
    · rename_i c' _ _ _ _ _
      cases (c' == Value.type "enumerate") <;> (wp_walk using wpAny_loadPart' ht, wpAny_pyIter_tuple hT; exact ⟨_, rfl, h⟩)
    · wp_walk using wpAny_loadPart' ht, wpAny_pyIter_tuple hT
      exact ⟨_, rfl, h⟩
section
variable {prog : Program} {w : World} {A : Around} {E : Value → Shared → Prop} {s : Shared}
theorem call_enumT {c : Addr} {items : Array Value} {Q : Value → Shared → Prop} (hT : s.heap.IsTuple c items)
    (h : ∀ h', IsEnum h' (s.heap.objs.size + 1) s.heap.objs.size 0 .none → h'.IsTupleIter s.heap.objs.size c 0 → h'.objs.size = s.heap.objs.size + 2 →
      (∀ b o, s.heap.get? b = some o → h'.get? b = some o) → Q (.ref (s.heap.objs.size + 1)) { s with heap := h' }) :
    wpAny (model prog w) A (call (.type "enumerate") [.ref c]) Q E s := by
  obtain ⟨⟨cl, dct, dt, sl⟩, hl, hc, n, hd⟩ := hT
  obtain rfl : cl = .type "tuple" := hc
  obtain rfl : dt = .seq items n := hd
  refine callType_new F.called_enumerate (by decide) (F.typeCall_enumerate_1 _) (F.newCall_enumerate_1 _) (fun obj => F.args_object_init_2 obj _) F.entry_enumerate_new (new_enumT c items n dct sl) ⟨hl, ?_⟩
  have hz : (s.heap.push { cls := .type "tuple_iterator", data := .fields #[.ref c, .int 0 0] }).objs.size = s.heap.objs.size + 1 := Heap.size_push ..
  show _ ∧ _
  rw [hz]
  have he : IsEnum ((s.heap.push { cls := .type "tuple_iterator", data := .fields #[.ref c, .int 0 0] }).push
      { cls := .type "enumerate", data := .fields #[.none, .bool false, .ref s.heap.objs.size, rawInt 0, .none, .none] }) (s.heap.objs.size + 1) s.heap.objs.size 0 .none := by
    have z := Heap.get?_push_size (s.heap.push { cls := .type "tuple_iterator", data := .fields #[.ref c, .int 0 0] })
      (o := { cls := .type "enumerate", data := .fields #[.none, .bool false, .ref s.heap.objs.size, rawInt 0, .none, .none] }) rfl
    rw [hz] at z; exact z
  exact ⟨⟨_, he, rfl⟩, h _ he ⟨_, Heap.get?_push_of_some _ (Heap.get?_push_size _ rfl), rfl, rfl⟩ (by rw [Heap.size_push, hz]) fun b o x => Heap.get?_push_of_some _ (Heap.get?_push_of_some _ x)⟩
end
/-- a tuple's items, each in a new pair with its place -/
def Itet (K : PySem.W.Frag) (a : Addr) : It :=
  ⟨fun i H => ∃ (xs : List V) (x : V), SqT K H a xs ∧ xs[i]? = some x, fun i H v H' => ∃ T x, v = .ref T ∧ H T = none ∧ H' = upd H T (.tup [.int (i : Nat), x]) ∧ ∀ xs, SqT K H a xs → xs[i]? = some x, fun i H => ∃ xs : List V, SqT K H a xs ∧ xs.length ≤ i⟩
theorem turn_enumT {P : Program} {w : World} {K : PySem.W.Frag} {elts : List Expr} {kk : Nat} {tpos : Pos} (a e it : Addr) :
    Turn P w K (.Tuple elts kk tpos) (Itet K a) [e, it] e (fun i h => (∃ old, IsEnum h e it ((i : Nat) : Int) old) ∧ h.IsTupleIter it a i ∧ e ≠ it ∧ a ≠ it ∧ a ≠ e) where
  mem := by simp
  obj := fun i h st b hb => by
    obtain ⟨⟨old, he⟩, ⟨o, ho, hc, hd⟩, _⟩ := st
    rcases (by simpa using hb : b = e ∨ b = it) with z | z
    · rw [z]; exact ⟨_, he, fun v q => nomatch q⟩
    · rw [z]; exact ⟨o, ho, fun v q => by rw [hd] at q; cases q⟩
  keep := fun i h h' st k => let ⟨⟨old, he⟩, hi, hne⟩ := st; ⟨⟨old, k e (by simp) _ he⟩, hi.at fun o q => k it (by simp) o q, hne⟩
  item := by
    intro X hP hw hK hc i pins s σ H E I hf st hg
    subst hP hw hK
    obtain ⟨⟨old, he⟩, hit, hne, hai, hae⟩ := st
    obtain ⟨xs, x, hq, hx⟩ := hg
    obtain ⟨its, rv, p, hz⟩ := I.tuple hq
    obtain ⟨u, hu, ru⟩ := rv.get hx
    have hel : e < s.heap.objs.size := Heap.lt_size he
    have hil : it < s.heap.objs.size := by obtain ⟨_, q, _⟩ := hit; exact Heap.lt_size q
    have hi : i < its.toArray.size := by
      have := (List.getElem?_eq_some_iff.mp hu).1
      simpa using this
    have hea : e ∉ [it, a] := by
      simp only [List.mem_cons, List.not_mem_nil, or_false, not_or]
      exact ⟨hne, Ne.symm hae⟩
    refine wpAny_pyNext_enum_itemD (Draws.tuple (A := X.A.in1) (I.ok.hd hc) it a hai its.toArray) he ⟨hit, p⟩ hi hne hea fun y h' tk hy ho hit' hT hsz hk => ?_
    have ey : y = u := by
      have : its.toArray[i]? = some u := by simpa using hu
      rw [this] at hy
      exact (Option.some.inj hy).symm
    subst ey
    refine ⟨_, rfl, wpAny_letOwnedTupleGo_enum (s := { s with heap := h', toks := tk + 1 }) ho fun h'' he' sb => ?_⟩
    have hT2 : h''.get? s.heap.objs.size = some { cls := .type "tuple", data := .seq #[.int i tk, y] } := (sb.2 _ (Nat.ne_of_gt hel)).trans hT
    have new : ObjOk X.prog X.w (upd H s.heap.objs.size (.tup [.int (i : Nat), x])) h'' s.heap.objs.size (.tup [.int (i : Nat), x]) :=
      ⟨by show 2 ≤ sizeLine; decide, [.int i tk, y], .cons ⟨_, rfl⟩ (.cons ru .nil), ⟨_, hT2, rfl, _, rfl⟩⟩
    have I1 : Inv X pins σ (upd H s.heap.objs.size (.tup [.int (i : Nat), x])) { s with heap := h'', toks := tk + 1 } :=
      I.turnedNew (ch := [e, it]) (fun b ob hb q => (sb.2 b (fun z => hb (by simp [z]))).trans (hk b ob (fun z => hb (by simp [z])) (fun z => hb (by simp [z])) q)) hf (Nat.le_refl _) new
    refine ⟨.ref s.heap.objs.size, _, I1, rfl, ⟨_, x, rfl, I.hok.fresh (Nat.le_refl _), rfl, fun ys hy => by rw [I.tuple_inj hy hq]; exact hx⟩, ⟨⟨y, ?_⟩, hit'.1.at fun o q => (sb.2 it (Ne.symm hne)).trans q, hne, hai, hae⟩, fun b hb => ?_⟩
    · have e1 : ((i + 1 : Nat) : Int) = (i : Int) + 1 := by omega
      rw [e1]; exact he'
    · have hb' : b < s.heap.objs.size := by
        rcases (by simpa using hb : b = e ∨ b = it) with z | z
        · rw [z]; exact hel
        · rw [z]; exact hil
      rw [upd_ne (Nat.ne_of_lt hb')]
      exact (hf b hb).1
  done := by
    intro X hP hw hK hc i pins s σ H E I hf st hg
    subst hP hw hK
    obtain ⟨⟨old, he⟩, hit, hne, hai, hae⟩ := st
    obtain ⟨xs, hq, hx⟩ := hg
    obtain ⟨its, rv, p, hz⟩ := I.tuple hq
    obtain ⟨f0, f1, f2, f3, f4, f5⟩ := hf it (by simp)
    have hl := rv.length
    have hT : s.TypeIs (.ref e) "enumerate" := ⟨_, he, rfl⟩
    unfold pyNext
    refine wpAny_bind (wpAny_attempt (wpAny_callSpecial?_slot (name := Str.ofString "__next__") hT F.slot_enumerate_next
      (wpAny_call_entry F.slot_enumerate_next hT F.entry_enumerate_next ?_ (F.args_enumerate_next_1 _))))
    show wpAny _ _ (field (.ref e) 2 >>= _) _ _ _
    refine wpAny_bind (wpAny_field he rfl (x := .ref it) rfl ?_)
    refine wpAny_bind (wpAny_nextOf_tuple_end (A := X.A.in1) (I.ok.hd hc) hit p (by simp; omega) fun h' x he' hx' => ?_)
    obtain ⟨o, ho, hc2⟩ := hx'
    refine wpAny_bind (wpAny_isInstance (T := "StopIteration") (b := true) ⟨o, ho, hc2⟩ isSubtype_stop ?_)
    exact wpAny_pure ⟨rfl, I.turned (t' := s.toks) (fun b o hb q => he' b o hb q) f0 f1 f3 f4 f5⟩
  self := fun A i s Q E st h => let ⟨⟨_, he⟩, _⟩ := st; wpAny_pyIter_enum he h
def iEnumT (K : PySem.W.Frag) (ta : TA) : TI := fun σ H R => ta σ H fun vs H1 => ∃ a, vs = [.ref a] ∧ ((∃ xs, SqL K H1 a xs) ∧ R (Ite K a) H1 ∨ (∃ xs, SqT K H1 a xs) ∧ R (Itet K a) H1)
theorem pi_enumT {X : Cx} {e : Expr} {ta : TA} {p pos tpos : Pos} {elts : List Expr} {kk : Nat} (hg : Gl X "enumerate") (hm : X.mg "enumerate" = none) (ha : PA X [e] ta) (hs : starEach [e] X.env = [(false, eval e X.env)]) :
    PI X (.Tuple elts kk tpos) (.Call (.Name "enumerate" p) [e] [] pos) (iEnumT X.K ta) := by
  refine ⟨fun pins s σ H R I h => ?_⟩
  refine Call_ (ld_blt I hg hm boot_enumerate (PyProof.Rows.callWith_type1 (thn (ha.run pos pins s σ H _ I h) fun us s1 ⟨vs, H1, I1, r1, q1⟩ => ?_) hs rfl))
  obtain ⟨a, ex, q⟩ := q1
  subst ex
  have er := Vals.ref1 r1
  subst er
  rcases q with ⟨⟨xs, hq⟩, q⟩ | ⟨⟨xs, hq⟩, q⟩
  · obtain ⟨its, rv, p', hz⟩ := I1.list hq
    refine call_enumerate_list p'.isList fun h' he hit hsz hk => wpAny_pyIter_enum he ?_
    have I2 : Inv X pins σ H1 { s1 with heap := h' } := I1.kept (t' := s1.toks) hk
    refine ⟨s1.heap.objs.size + 1, [s1.heap.objs.size + 1, s1.heap.objs.size], _, _, H1, rfl, I2, turn_enum a (s1.heap.objs.size + 1) s1.heap.objs.size, ⟨⟨.none, he⟩, hit, Nat.succ_ne_self _⟩, fun b hb => ?_, q⟩
    have hle : s1.heap.objs.size ≤ b := by
      rcases (by simpa using hb : b = s1.heap.objs.size + 1 ∨ b = s1.heap.objs.size) with z | z
      · rw [z]; exact Nat.le_add_right _ _
      · rw [z]; exact Nat.le_refl _
    exact I1.fpOk hle (I1.hok.fresh hle)
  · obtain ⟨its, rv, p', hz⟩ := I1.tuple hq
    have hlt : a < s1.heap.objs.size := by obtain ⟨_, q, _⟩ := p'; exact Heap.lt_size q
    refine call_enumT p' fun h' he hit hsz hk => wpAny_pyIter_enum he ?_
    have I2 : Inv X pins σ H1 { s1 with heap := h' } := I1.kept (t' := s1.toks) hk
    refine ⟨s1.heap.objs.size + 1, [s1.heap.objs.size + 1, s1.heap.objs.size], _, _, H1, rfl, I2, turn_enumT a (s1.heap.objs.size + 1) s1.heap.objs.size, ⟨⟨.none, he⟩, hit, Nat.succ_ne_self _, Nat.ne_of_lt hlt, Nat.ne_of_lt (Nat.lt_succ_of_lt hlt)⟩, fun b hb => ?_, q⟩
    have hle : s1.heap.objs.size ≤ b := by
      rcases (by simpa using hb : b = s1.heap.objs.size + 1 ∨ b = s1.heap.objs.size) with z | z
      · rw [z]; exact Nat.le_add_right _ _
      · rw [z]; exact Nat.le_refl _
    exact I1.fpOk hle (I1.hok.fresh hle)
end Tku
/-! TK, part 12: a slot is written; calls of defs; methods that change a list. Own work. -/
namespace TK
open PySem L2
section
variable {K : PySem.W.Frag} {X : Cx} {cA : Nat → Addr} {G : Sig} {cl : Cl} {L Lb Lc : LK}
variable {r r' r1 r2 r3 : Env} {p p' p1 p2 : Nat → List Addr} {S S' S1 S2 H H' H1 H2 : Hp} {F F1 F2 : List Addr} {s s' : St} {Q : VK}
def setF (p : Nat → List Addr) (i : Nat) (F : List Addr) : Nat → List Addr := fun j => if j = i then F else p j
theorem setF_same {i : Nat} : setF p i F i = F := if_pos rfl
theorem setF_ne {i j : Nat} (h : j ≠ i) : setF p i F j = p j := if_neg h
/-- the state but for the slots of T -/
structure StX (K : PySem.W.Frag) (cA : Nat → Addr) (T : List Nat) (S H : Hp) (r : Env) (s : St) (p : Nat → List Addr) : Prop where
  sub : Sub S H
  len : r.length = s.length
  rep : ∀ i d, i ∉ T → gt r i = some d → ∃ v, s[i]? = some (some v) ∧ Rep K cA S H d v (p i)
  emp : ∀ i, i ∉ T → gt r i = none → p i = []
  nd : ∀ i, i ∉ T → (p i).Nodup
  dj : ∀ i j a, i ∉ T → j ∉ T → i ≠ j → a ∈ p i → a ∈ p j → False
  own : ∀ i a, i ∉ T → a ∈ p i → S a = none
theorem Stt.x (st : Stt K cA S H r s p) (T : List Nat) : StX K cA T S H r s p := ⟨st.sub, st.len, fun i d _ => st.rep i d, fun i _ => st.emp i, fun i _ => st.nd i, fun i j a _ _ => st.dj i j a, fun i a _ => st.own i a⟩
theorem StX.st (st : StX K cA [] S H r s p) : Stt K cA S H r s p :=
  ⟨st.sub, st.len, fun i d => st.rep i d (by simp), fun i => st.emp i (by simp), fun i => st.nd i (by simp), fun i j a => st.dj i j a (by simp) (by simp), fun i a => st.own i a (by simp)⟩
theorem StX.put {T T' : List Nat} {i : Nat} {d : D} {v : V} (st : StX K cA T' S H r s p) (ht : ∀ j, j ∉ T → j ≠ i → j ∉ T') (hi : i < r.length) (hl : s'.length = s.length) (hv : s'[i]? = some (some v)) (ho : ∀ j, j ≠ i → s'[j]? = s[j]?)
    (rp : Rep K cA S H d v F) (nd : F.Nodup) (dj : ∀ j, j ∉ T → j ≠ i → ∀ a, a ∈ p j → a ∈ F → False) (own : ∀ a ∈ F, S a = none) : StX K cA T S H (r.set i (some d)) s' (setF p i F) := by
  refine ⟨st.sub, by rw [List.length_set, hl]; exact st.len, fun j e hj he => ?_, fun j hj he => ?_, fun j hj => ?_, fun j k a hj hk hjk ha hb => ?_, fun j a hj ha => ?_⟩
  · rw [gt_set hi] at he
    by_cases z : j = i
    · subst z
      rw [if_pos rfl] at he
      cases he
      exact ⟨v, hv, by rw [setF_same]; exact rp⟩
    · rw [if_neg z] at he
      rw [setF_ne z, ho j z]
      exact st.rep j e (ht j hj z) he
  · rw [gt_set hi] at he
    by_cases z : j = i
    · subst z; rw [if_pos rfl] at he; cases he
    · rw [if_neg z] at he
      rw [setF_ne z]
      exact st.emp j (ht j hj z) he
  · by_cases z : j = i
    · subst z; rw [setF_same]; exact nd
    · rw [setF_ne z]; exact st.nd j (ht j hj z)
  · by_cases z : j = i
    · subst z
      rw [setF_same] at ha
      rw [setF_ne (fun q => hjk q.symm)] at hb
      exact dj k hk (fun q => hjk q.symm) a hb ha
    · rw [setF_ne z] at ha
      by_cases z2 : k = i
      · subst z2
        rw [setF_same] at hb
        exact dj j hj z a ha hb
      · rw [setF_ne z2] at hb
        exact st.dj j k a (ht j hj z) (ht k hk z2) hjk ha hb
  · by_cases z : j = i
    · subst z; rw [setF_same] at ha; exact own a ha
    · rw [setF_ne z] at ha; exact st.own j a (ht j hj z) ha
/-- the slots of T let be, the heap goes on -/
theorem StX.ext {T : List Nat} (st : StX K cA T S H r s p) (hs : Sub S S') (hk : ∀ i a, i ∉ T → a ∈ p i → H' a = H a) (hc : ∀ i a, i ∉ T → a ∈ p i → S' a = none) (sub : Sub S' H') : StX K cA T S' H' r s p :=
  ⟨sub, st.len, fun i d hi e => let ⟨v, h1, rp⟩ := st.rep i d hi e; ⟨v, h1, Rep.mono hs d rp fun a ha => hk i a hi ha⟩, st.emp, st.nd, st.dj, hc⟩
/-- what is in the hand may be written too -/
theorem Eff.trans2 (h : Eff L r p S H r1 p1 F S1 H1) (sub : Sub S1 S2) (keep : ∀ a o, H1 a = some o → (∀ i, L i = false → a ∉ p1 i) → a ∉ F → H2 a = some o)
    (cap : ∀ a o, S2 a = some o → S1 a = some o ∨ H1 a = none ∨ (∃ i, L i = false ∧ a ∈ p1 i) ∨ a ∈ F) (same : ∀ i, L i = true → gt r2 i = gt r1 i ∧ p2 i = p1 i)
    (new : ∀ i a, L i = false → a ∈ p2 i → H1 a = none ∨ (∃ i, L i = false ∧ a ∈ p1 i) ∨ a ∈ F) (tmp : ∀ a ∈ F2, H1 a = none ∨ (∃ i, L i = false ∧ a ∈ p1 i) ∨ a ∈ F) (len : r2.length = r1.length) : Eff L r p S H r2 p2 F2 S2 H2 := by
  have bk : ∀ a, (H1 a = none ∨ (∃ i, L i = false ∧ a ∈ p1 i) ∨ a ∈ F) → H a = none ∨ ∃ i, L i = false ∧ a ∈ p i := fun a z => by
    rcases z with z | z | z
    · exact h.back (.inl z)
    · exact h.back (.inr z)
    · exact h.tmp a z
  refine ⟨fun a o e => sub a o (h.sub a o e), fun a o e q => ?_, fun a o e => ?_, fun i z => ⟨(same i z).1.trans (h.same i z).1, (same i z).2.trans (h.same i z).2⟩, fun i a z q => bk a (new i a z q), fun a q => bk a (tmp a q), len.trans h.len⟩
  · have no : ¬ (H a = none ∨ ∃ i, L i = false ∧ a ∈ p i) := fun z => by
      rcases z with z | ⟨i, z, z2⟩
      · rw [e] at z; cases z
      · exact q i z z2
    exact keep a o (h.keep a o e q) (fun i z z2 => no (bk a (.inr (.inl ⟨i, z, z2⟩)))) fun z => no (bk a (.inr (.inr z)))
  · rcases cap a o e with z | z
    · exact h.cap a o z
    · exact .inr (bk a z)
/-! ### what is handed to a def -/
def sls : List R → List Nat
  | [] => []
  | .sl i :: r => i :: sls r
  | _ :: r => sls r
theorem RReps.tmp {xs : List R} {vs : List V} (rr : RReps K cA S H r s p xs vs F) : Tmp S p F := by
  induction rr with
  | nil => exact Tmp.nil
  | @cons x v F xs vs F2 h1 hs dj ih =>
    have t1 : Tmp S p F := by
      cases x with
      | tm d => exact h1.2
      | sl i => rw [h1.2]; exact Tmp.nil
      | sn q P d => rw [h1.1]; exact Tmp.nil
    exact ⟨List.nodup_append.mpr ⟨t1.nd, ih.nd, fun a ha b hb e => dj a ha (e ▸ hb)⟩, fun i a q ha => (List.mem_append.mp ha).elim (t1.dj i a q) (ih.dj i a q), fun a ha => (List.mem_append.mp ha).elim (t1.own a) (ih.own a)⟩
theorem lent_reps (st : Stt K cA S H r s p) : ∀ {xs : List R} {vs : List V} {F : List Addr} {ds : List D} {l : List Nat}, RReps K cA S H r s p xs vs F → gets r xs = some ds → lentOk r xs l = true →
    ∃ FF, Reps K cA S H ds vs FF ∧ FF.Nodup ∧ (∀ a ∈ FF, a ∈ F ∨ ∃ i ∈ sls xs, i ∉ l ∧ a ∈ p i) ∧ ∀ a ∈ FF, S a = none := by
  intro xs
  induction xs with
  | nil =>
    intro vs F ds l rr hg hl
    cases rr; cases hg
    exact ⟨[], .nil, List.nodup_nil, by simp, by simp⟩
  | cons x xs ih =>
    intro vs F ds l rr hg hl
    have rr0 := rr.tmp
    cases rr with
    | @cons _ v F1 _ vs F2 g1 rr dj =>
    unfold gets at hg
    split at hg
    · rename_i d ds' e1 e2
      cases hg
      cases x with
      | sn q P d => simp [lentOk] at hl
      | tm d' =>
        cases (Option.some.inj e1)
        simp only [lentOk] at hl
        obtain ⟨FF, h1, h2, h3, h4⟩ := ih rr e2 hl
        refine ⟨F1 ++ FF, .cons g1.1 h1, List.nodup_append.mpr ⟨g1.2.nd, h2, fun a ha b hb e => ?_⟩, fun a ha => ?_, fun a ha => (List.mem_append.mp ha).elim (g1.2.own a) (h4 a)⟩
        · subst e
          rcases h3 a hb with z | ⟨i, _, _, z⟩
          · exact dj a ha z
          · exact g1.2.dj i a z ha
        · rcases List.mem_append.mp ha with z | z
          · exact .inl (List.mem_append_left _ z)
          · rcases h3 a z with z | z
            · exact .inl (List.mem_append_right _ z)
            · exact .inr z
      | sl i =>
        have hgi : gt r i = some d := e1
        simp only [lentOk, hgi] at hl
        obtain ⟨w, hw, rp⟩ := st.rep i d hgi
        rw [g1.1] at hw; cases hw
        split at hl
        · rename_i hf
          obtain ⟨FF, h1, h2, h3, h4⟩ := ih rr e2 hl
          refine ⟨[] ++ FF, .cons (Rep.fzmono (fun _ _ e => e) rp hf) h1, h2, fun a ha => ?_, h4⟩
          rcases h3 a ha with z | ⟨j, z1, z2, z3⟩
          · exact .inl (List.mem_append_right _ z)
          · exact .inr ⟨j, List.mem_cons_of_mem _ z1, z2, z3⟩
        · simp only [Bool.and_eq_true] at hl
          obtain ⟨FF, h1, h2, h3, h4⟩ := ih rr e2 hl.2
          refine ⟨p i ++ FF, .cons rp h1, List.nodup_append.mpr ⟨st.nd i, h2, fun a ha b hb e => ?_⟩, fun a ha => ?_, fun a ha => (List.mem_append.mp ha).elim (st.own i a) (h4 a)⟩
          · subst e
            rcases h3 a hb with z | ⟨j, _, z2, z3⟩
            · exact rr0.dj i a ha (List.mem_append_right _ z)
            · exact st.dj i j a (fun q => z2 (by rw [q]; exact List.mem_cons_self)) ha z3
          · rcases List.mem_append.mp ha with z | z
            · exact .inr ⟨i, List.mem_cons_self, by simpa using hl.1, z⟩
            · rcases h3 a z with z | ⟨j, z1, z2, z3⟩
              · exact .inl (List.mem_append_right _ z)
              · exact .inr ⟨j, List.mem_cons_of_mem _ z1, fun q => z2 (List.mem_cons_of_mem _ q), z3⟩
    · cases hg
theorem back_ok : ∀ {xs : List R} {vs ws : List V} {ds : List D} {r : Env} {p : Nat → List Addr} {F : List Addr}, All2 (fun (x : R) v => ∀ i, x = .sl i → s[i]? = some (some v)) xs vs → StX K cA (sls xs) S H r s p → Reps K cA S H ds (vs ++ ws) F → F.Nodup → (∀ a ∈ F, S a = none) →
    (∀ j, j ∉ sls xs → ∀ a, a ∈ p j → a ∈ F → False) → ∃ p', Stt K cA S H (back r xs ds) s p' ∧ (∀ j, j ∉ sls xs → p' j = p j ∧ gt (back r xs ds) j = gt r j) ∧ (∀ j ∈ sls xs, ∀ a ∈ p' j, a ∈ F) ∧ (back r xs ds).length = r.length := by
  intro xs
  induction xs with
  | nil =>
    intro vs ws ds r p F h2 st rs nd own dj
    have e : back r [] ds = r := by cases ds <;> rfl
    rw [e]
    exact ⟨p, st.st, fun j _ => ⟨rfl, rfl⟩, by simp [sls], rfl⟩
  | cons x xs ih =>
    intro vs ws ds r p F h2 st rs nd own dj
    cases h2 with
    | @cons _ v _ vs hx h2 =>
    cases rs with
    | @cons d _ F1 ds _ F2 rp rs =>
    have nd2 := List.nodup_append.mp nd
    cases x with
    | sl i =>
      have hv := hx i rfl
      have hi : i < r.length := by
        rw [st.len]
        exact (List.getElem?_eq_some_iff.mp hv).1
      have st2 : StX K cA (sls xs) S H (r.set i (some d)) s (setF p i F1) := st.put (T := sls xs) (fun j h1 h2 h3 => (List.mem_cons.mp h3).elim h2 h1) hi rfl hv (fun _ _ => rfl) rp nd2.1
        (fun j h1 h2 a ha hb => dj j (fun h3 => (List.mem_cons.mp h3).elim h2 h1) a ha (List.mem_append_left _ hb)) fun a ha => own a (List.mem_append_left _ ha)
      obtain ⟨p', k1, k2, k3, k4⟩ := ih h2 st2 rs nd2.2.1 (fun a ha => own a (List.mem_append_right _ ha)) fun j hj a ha hb => by
        by_cases z : j = i
        · subst z
          rw [setF_same] at ha
          exact nd2.2.2 a ha a hb rfl
        · rw [setF_ne z] at ha
          exact dj j (fun h3 => (List.mem_cons.mp h3).elim z hj) a ha (List.mem_append_right _ hb)
      refine ⟨p', k1, fun j hj => ?_, fun j hj a ha => ?_, by show (back (r.set i (some d)) xs ds).length = _; rw [k4, List.length_set]⟩
      · have h1 : j ≠ i := fun z => hj (z ▸ List.mem_cons_self)
        have h3 : j ∉ sls xs := fun z => hj (List.mem_cons_of_mem _ z)
        obtain ⟨q1, q2⟩ := k2 j h3
        exact ⟨q1.trans (setF_ne h1), q2.trans (by rw [gt_set hi, if_neg h1])⟩
      · by_cases z : j ∈ sls xs
        · exact List.mem_append_right _ (k3 j z a ha)
        · rw [(k2 j z).1] at ha
          rcases List.mem_cons.mp hj with q | q
          · subst q
            rw [setF_same] at ha
            exact List.mem_append_left _ ha
          · exact (z q).elim
    | tm d' =>
      obtain ⟨p', k1, k2, k3, k4⟩ := ih h2 st rs nd2.2.1 (fun a ha => own a (List.mem_append_right _ ha)) fun j hj a ha hb => dj j hj a ha (List.mem_append_right _ hb)
      exact ⟨p', k1, k2, fun j hj a ha => List.mem_append_right _ (k3 j hj a ha), k4⟩
    | sn q P d' =>
      obtain ⟨p', k1, k2, k3, k4⟩ := ih h2 st rs nd2.2.1 (fun a ha => own a (List.mem_append_right _ ha)) fun j hj a ha hb => dj j hj a ha (List.mem_append_right _ hb)
      exact ⟨p', k1, k2, fun j hj a ha => List.mem_append_right _ (k3 j hj a ha), k4⟩
theorem RReps.sl {xs : List R} {vs : List V} (rr : RReps K cA S H r s p xs vs F) : All2 (fun (x : R) v => ∀ i, x = .sl i → s[i]? = some (some v)) xs vs := by
  induction rr with
  | nil => exact .nil
  | cons h1 hs dj ih => exact .cons (fun i e => by subst e; exact h1.1) ih
theorem pks_ok : ∀ {xs : Exs} {r : Env} {rs : List R} {r' : Env}, xs.ev G cl r = some (rs, r') → ∀ i ∈ sls rs, i ∈ xs.pks
  | .nil, _, _, _, h => by simp only [Exs.ev] at h; cases h; simp [sls]
  | .cons a as, r, rs, r', h => by
    simp only [Exs.ev] at h
    split at h
    · rename_i y r1 h1
      split at h
      · rename_i ys r2 h2
        cases h
        intro i hi
        have up : ∀ i ∈ as.pks, i ∈ (Exs.cons a as).pks := fun i hi => by
          cases a <;> simp only [Exs.pks] <;> first | exact hi | exact List.mem_cons_of_mem _ hi
        cases y with
        | sl j =>
          rcases List.mem_cons.mp hi with q | q
          · subst q
            rw [(rootX_ok a r _ r1 h1).1 _ rfl]
            exact List.mem_cons_self
          · exact up i (pks_ok h2 i q)
        | tm d => exact up i (pks_ok h2 i hi)
        | sn q P d => exact up i (pks_ok h2 i hi)
      · cases h
    · cases h
def Cn.v : Cn → V
  | .non => .non | .bl b => .bl b | .int i => .int i | .str x => .str x
theorem cns_reps (df : List Cn) : Reps K cA S H (df.map Cn.d) (df.map Cn.v) [] := by
  induction df with
  | nil => exact .nil
  | cons c df ih =>
    refine .cons (F := []) (Fs := []) ?_ ih
    cases c
    · exact .non
    · exact .bl _
    · exact .int _
    · exact .str _
/-- a def's promise, by what is computed for it -/
def spC (K : PySem.W.Frag) (cA : Nat → Addr) (cl : Cl) (f n : Nat) : Sp := fun vs H Q _ => ∃ S ds FF d ds', Sub S H ∧ Reps K cA S H ds vs FF ∧ FF.Nodup ∧ (∀ a ∈ FF, S a = none) ∧ cl f ds = some (d, ds') ∧ ds.length = n ∧
  ∀ v S' H' Fd F', Sub S S' → Sub S' H' → Rep K cA S' H' d v Fd → Reps K cA S' H' ds' vs F' → (Fd ++ F').Nodup → (∀ a ∈ Fd ++ F', S' a = none ∧ (H a = none ∨ a ∈ FF)) → (∀ a o, H a = some o → a ∉ FF → H' a = some o) →
    (∀ a o, S' a = some o → S a = some o ∨ H a = none ∨ a ∈ FF) → Q v H'
theorem call_inv {f : Nat} {as : Exs} {df : List Cn} {x : R} (h : (Ex.call f as df).ev G cl r = some (x, r')) : ∃ rs r1 ds d ds', as.ev G cl r = some (rs, r1) ∧ gets r1 rs = some ds ∧ lentOk r1 rs [] = true ∧ cl f (ds ++ df.map Cn.d) = some (d, ds') ∧ x = .tm d ∧ r' = back r1 rs ds' := by
  simp only [Ex.ev] at h
  split at h
  · rename_i rs e1 h1
    split at h
    · rename_i ds h2
      split at h
      · rename_i h3
        split at h
        · rename_i d ds' h4
          cases h
          exact ⟨rs, e1, ds, d, ds', h1, h2, h3, h4, rfl, rfl⟩
        · cases h
      · cases h
    · cases h
  · cases h
/-- behind a call: the lent things come back, Fx is in the hand -/
theorem call_post {rs : List R} {vs ws : List V} {ds' : List D} {FF Fx F' : List Addr} {S0 H0 : Hp} {r0 : Env} {p0 : Nat → List Addr} (st1 : Stt K cA S1 H1 r1 s p1) (rr : RReps K cA S1 H1 r1 s p1 rs vs F) (ef : Eff L r0 p0 S0 H0 r1 p1 F S1 H1) (hus : ∀ i ∈ sls rs, L i = false)
    (c3 : ∀ a ∈ FF, a ∈ F ∨ ∃ i ∈ sls rs, i ∉ ([] : List Nat) ∧ a ∈ p1 i) (hs : Sub S1 S') (sub : Sub S' H') (rl : Reps K cA S' H' ds' (vs ++ ws) F') (nd : (Fx ++ F').Nodup) (hf : ∀ a ∈ Fx ++ F', S' a = none ∧ (H1 a = none ∨ a ∈ FF))
    (keep : ∀ a o, H1 a = some o → a ∉ FF → H' a = some o) (cap : ∀ a o, S' a = some o → S1 a = some o ∨ H1 a = none ∨ a ∈ FF) :
    ∃ p', Stt K cA S' H' (back r1 rs ds') s p' ∧ Tmp S' p' Fx ∧ Eff L r0 p0 S0 H0 (back r1 rs ds') p' Fx S' H' := by
  have tm := rr.tmp
  have inF : ∀ a ∈ FF, (∃ i, L i = false ∧ a ∈ p1 i) ∨ a ∈ F := fun a ha => by
    rcases c3 a ha with z | ⟨i, z1, _, z2⟩
    · exact .inr z
    · exact .inl ⟨i, hus i z1, z2⟩
  have nd2 := List.nodup_append.mp nd
  have notFF : ∀ j, j ∉ sls rs → ∀ a, a ∈ p1 j → a ∉ FF := fun j hj a ha z => by
    rcases c3 a z with z | ⟨i, z1, _, z2⟩
    · exact tm.dj j a ha z
    · exact st1.dj j i a (fun q => hj (q ▸ z1)) ha z2
  have notNew : ∀ j, j ∉ sls rs → ∀ a, a ∈ p1 j → ¬ (H1 a = none ∨ a ∈ FF) := fun j hj a ha z => by
    rcases z with z | z
    · obtain ⟨o, q⟩ := st1.there ha
      rw [q] at z; cases z
    · exact notFF j hj a ha z
  have stx : StX K cA (sls rs) S' H' r1 s p1 := (st1.x (sls rs)).ext hs (fun j a hj ha => by
      obtain ⟨o, q⟩ := st1.there ha
      rw [q]
      exact keep a o q (notFF j hj a ha)) (fun j a hj ha => by
      cases q : S' a with
      | none => rfl
      | some o =>
        rcases cap a o q with z | z
        · rw [st1.own j a ha] at z; cases z
        · exact (notNew j hj a ha z).elim) sub
  obtain ⟨p', k1, k2, k3, k4⟩ := back_ok rr.sl stx rl nd2.2.1 (fun a ha => (hf a (List.mem_append_right _ ha)).1) fun j hj a ha hb => notNew j hj a ha (hf a (List.mem_append_right _ hb)).2
  have toF : ∀ a, H1 a = none ∨ a ∈ FF → H1 a = none ∨ (∃ i, L i = false ∧ a ∈ p1 i) ∨ a ∈ F := fun a z => z.elim .inl fun z => .inr (inF a z)
  refine ⟨p', k1, ⟨nd2.1, fun i a hi ha => ?_, fun a ha => (hf a (List.mem_append_left _ ha)).1⟩, ef.trans2 hs (fun a o e1 e2 e3 => keep a o e1 fun z => (inF a z).elim (fun ⟨i, z1, z2⟩ => e2 i z1 z2) e3) (fun a o e1 => (cap a o e1).elim .inl fun z => .inr (toF a z)) (fun i hi => ?_) (fun i a hi ha => ?_) (fun a ha => toF a (hf a (List.mem_append_left _ ha)).2) k4⟩
  · by_cases z : i ∈ sls rs
    · exact nd2.2.2 a ha a (k3 i z a hi) rfl
    · rw [(k2 i z).1] at hi
      exact notNew i z a hi (hf a (List.mem_append_left _ ha)).2
  · have z : i ∉ sls rs := fun z => by rw [hus i z] at hi; cases hi
    exact ⟨(k2 i z).2, (k2 i z).1⟩
  · by_cases z : i ∈ sls rs
    · exact toF a (hf a (List.mem_append_right _ (k3 i z a ha))).2
    · rw [(k2 i z).1] at ha
      exact .inr (.inl ⟨i, hi, ha⟩)
/-- the call itself -/
theorem call_tail {f n : Nat} {rs : List R} {vs : List V} {ds ds' : List D} {df : List Cn} {d : D} {S0 H0 : Hp} {r0 : Env} {p0 : Nat → List Addr} {E : XK} (st1 : Stt K cA S1 H1 r1 s p1) (rr : RReps K cA S1 H1 r1 s p1 rs vs F) (ef : Eff L r0 p0 S0 H0 r1 p1 F S1 H1) (hus : ∀ i ∈ sls rs, L i = false)
    (h2 : gets r1 rs = some ds) (h3 : lentOk r1 rs [] = true) (h4 : cl f (ds ++ df.map Cn.d) = some (d, ds')) (hn : ∀ ds d ds', cl f ds = some (d, ds') → ds.length = n)
    (k : ∀ (v : V) (S' H' : Hp) (p' : Nat → List Addr) (F : List Addr), Stt K cA S' H' (back r1 rs ds') s p' → RRep K cA S' H' (back r1 rs ds') s p' (.tm d) v F → Eff L r0 p0 S0 H0 (back r1 rs ds') p' F S' H' → Q v H') : spC K cA cl f n (vs ++ df.map Cn.v) H1 Q E := by
  obtain ⟨FF, c1, c2, c3, c4⟩ := lent_reps st1 rr h2 h3
  refine ⟨S1, ds ++ df.map Cn.d, FF, d, ds', st1.sub, by simpa using Reps.append c1 (cns_reps df), c2, c4, h4, hn _ _ _ h4, fun v S' H' Fd F' hs sub rd rl nd hf keep cap => ?_⟩
  obtain ⟨p', k1, k2, k3⟩ := call_post st1 rr ef hus c3 hs sub rl nd hf keep cap
  exact k v S' H' p' Fd k1 ⟨rd, k2⟩ k3
theorem call_of {f n : Nat} {as : Exs} {df : List Cn} (hn : ∀ ds d ds', cl f ds = some (d, ds') → ds.length = n) (hu : ∀ i ∈ as.pks, L i = false) (h : tX X.K cA L (fun r => (Ex.call f as df).ev G cl r) s H Q) {E : XK} :
    tCall (spC X.K cA cl f n) (df.map Cn.v) E (tXs X.K cA L fun r => as.ev G cl r) s H Q := by
  obtain ⟨S, r, p, x, r', st, e, k⟩ := h
  obtain ⟨rs, r1, ds, d, ds', h1, h2, h3, h4, rfl, rfl⟩ := call_inv e
  exact ⟨S, r, p, rs, r1, st, h1, fun vs S1 H1 p1 F st1 rr ef => call_tail st1 rr ef (fun i hi => hu i (pks_ok h1 i hi)) h2 h3 h4 hn k⟩
theorem e_call {CX : CXT} {k n f : Nat} {fa : Addr} {fd : FuncData} {ps : List Str} {ds : List Value} {E : XK} {x : Str} {pn pos : Pos} {e : Expr} {es : List Expr} {xs : Exs} {df : List Cn}
    (Fo : FnOk X.prog X.w X.K X.mg X.base CX k fa fd ps (spC X.K cA cl f n)) (hr : Room k X.A) (hg : Gl X x) (hm : X.mg x = some (.ref fa)) (hk : PySem.W.keepIn X.K (.ref fa) = true) (hb : Binds X.K fd ps ds) (hd : Vals (df.map Cn.v) ds) (hx : Passes CX X E)
    (ha : OkA X cA G cl L (e :: es) xs) (hdb : (x == ("__debug__" : Str)) = false) (hs : (e :: es).all noStar = true) (hn : ∀ ds d ds', cl f ds = some (d, ds') → ds.length = n) (hu : ∀ i ∈ xs.pks, L i = false) :
    OkE X cA G cl L (.Call (.Name x pn) (e :: es) [] pos) (.call f xs df) := by
  simp only [List.all_cons, Bool.and_eq_true] at hs
  exact PE.imp (pe_call Fo hr hg hm hk hb hd hx ha hdb (starEach_cons hs.1) (noStars hs.2)) fun s H Q h => call_of hn hu h
end
end TK
/-! TK, part 13: methods that change a list. Own work. -/
namespace TK
open PySem L2
section
variable {K : PySem.W.Frag} {X : Cx} {cA : Nat → Addr} {G : Sig} {cl : Cl} {L Lb Lc : LK}
variable {r r' r1 r2 r3 : Env} {p p' p1 p2 : Nat → List Addr} {S S' S1 S2 H H' H1 H2 : Hp} {F F1 F2 : List Addr} {s s' : St} {Q : VK}
/-! ### a place, and what is round it -/
theorem Reps.split : ∀ {xs : List D} {vs : List V} {F : List Addr} {j : Nat} {x : D} {w : V}, Reps K cA S H xs vs F → xs[j]? = some x → vs[j]? = some w → ∃ A Fj B, F = A ++ Fj ++ B ∧ Rep K cA S H x w Fj ∧
    ∀ H' x' Fj', (∀ a, a ∈ A ∨ a ∈ B → H' a = H a) → Rep K cA S H' x' w Fj' → Reps K cA S H' (xs.set j x') vs (A ++ Fj' ++ B)
  | [], _, _, _, _, _, _, e, _ => by simp at e
  | y :: ys, _, _, 0, x, w, h, e, e2 => by
    cases h with
    | @cons _ v F1 _ vs F2 rp rs =>
      simp at e e2
      subst e; subst e2
      refine ⟨[], F1, F2, by simp, rp, fun H' x' Fj' hk rp' => ?_⟩
      exact .cons (F := Fj') rp' (Reps.mono (fun _ _ e => e) ys rs fun a ha => hk a (.inr ha))
  | y :: ys, _, _, j + 1, x, w, h, e, e2 => by
    cases h with
    | @cons _ v F1 _ vs F2 rp rs =>
      obtain ⟨A, Fj, B, k1, k2, k3⟩ := Reps.split (j := j) rs (by simpa using e) (by simpa using e2)
      refine ⟨F1 ++ A, Fj, B, by rw [k1]; simp, k2, fun H' x' Fj' hk rp' => ?_⟩
      have := k3 H' x' Fj' (fun a ha => hk a (ha.elim (fun z => .inl (List.mem_append_right _ z)) .inr)) rp'
      have q : Reps K cA S H' (y :: ys.set j x') (v :: vs) (F1 ++ (A ++ Fj' ++ B)) := .cons (Rep.mono (fun _ _ e => e) y rp fun a ha => hk a (.inl (List.mem_append_left _ ha))) this
      rw [show F1 ++ A ++ Fj' ++ B = F1 ++ (A ++ Fj' ++ B) by simp]
      exact q
theorem Rep.split : ∀ {P : List Nat} {d0 d : D} {v0 v : V} {F0 : List Addr}, Rep K cA S H d0 v0 F0 → AtP cA S H d0 v0 P d v → ∃ A Fc B, F0 = A ++ Fc ++ B ∧ Rep K cA S H d v Fc ∧
    ∀ H' d' Fc', (∀ a, a ∈ A ∨ a ∈ B → H' a = H a) → Rep K cA S H' d' v Fc' → Rep K cA S H' (setP d' P d0) v0 (A ++ Fc' ++ B)
  | [], d0, d, v0, v, F0, rp, h => by
    cases h
    exact ⟨[], F0, [], by simp, rp, fun H' d' Fc' _ q => by simpa [setP] using q⟩
  | j :: P, d0, d, v0, v, F0, rp, h => by
    cases h with
    | @tup xs a vs _ x _ w _ _ q e1 e2 h =>
      cases rp with
      | tup q' rs =>
        rw [q] at q'; cases q'
        obtain ⟨A, Fj, B, k1, k2, k3⟩ := Reps.split rs e1 e2
        obtain ⟨A2, Fc, B2, l1, l2, l3⟩ := Rep.split k2 h
        refine ⟨A ++ A2, Fc, B2 ++ B, by rw [k1, l1]; simp, l2, fun H' d' Fc' hk rp' => ?_⟩
        have c := l3 H' d' Fc' (fun a ha => hk a (ha.elim (fun z => .inl (List.mem_append_right _ z)) fun z => .inr (List.mem_append_left _ z))) rp'
        have c2 := k3 H' _ _ (fun a ha => hk a (ha.elim (fun z => .inl (List.mem_append_left _ z)) fun z => .inr (List.mem_append_right _ z))) c
        simp only [setP, e1]
        rw [show A ++ A2 ++ Fc' ++ (B2 ++ B) = A ++ (A2 ++ Fc' ++ B2) ++ B by simp]
        exact .tup q c2
      | fz n q' rs z => exact absurd rfl n
    | @ow k xs a vs o _ x _ w _ _ n e q e1 e2 h =>
      cases rp with
      | @ow _ _ _ vs2 o2 G2 n' e' q' rs =>
        have ea := e
        rw [e] at e'; cases e'
        have ev : vs2[j]? = some w := by
          obtain ⟨w', G', e3, _, _⟩ := Reps.get rs e1
          have : w = w' := Option.some.inj (e2.symm.trans (by
            rw [← e3]
            congr 1
            cases k with
            | tup => exact absurd rfl n
            | scr => exact absurd q (by simp [HoIs])
            | kt => exact absurd q (by simp [HoIs])
            | lst => cases q; cases q'; rfl
            | dK ks =>
              obtain ⟨l1, rfl⟩ := q
              obtain ⟨l2, z⟩ := q'
              injection z with z
              have := congrArg (List.map Prod.snd) z
              rw [List.map_snd_zip (by omega), List.map_snd_zip (by omega)] at this
              exact this
            | dT ks =>
              obtain ⟨l1, rfl⟩ := q
              obtain ⟨l2, z⟩ := q'
              injection z with z
              have := congrArg (List.map Prod.snd) z
              rw [List.map_snd_zip (by omega), List.map_snd_zip (by omega)] at this
              exact this
            | ins c ns =>
              obtain ⟨_, l1, dx, rfl⟩ := q
              obtain ⟨_, l2, dy, z⟩ := q'
              injection z with _ _ z
              have := congrArg (List.map Prod.snd) z
              rw [List.map_snd_zip (by omega), List.map_snd_zip (by omega)] at this
              exact this))
          rw [this]; exact e3
        obtain ⟨A, Fj, B, k1, k2, k3⟩ := Reps.split rs e1 ev
        obtain ⟨A2, Fc, B2, l1, l2, l3⟩ := Rep.split k2 h
        refine ⟨a :: (A ++ A2), Fc, B2 ++ B, by rw [k1, l1]; simp, l2, fun H' d' Fc' hk rp' => ?_⟩
        have c := l3 H' d' Fc' (fun b hb => hk b (hb.elim (fun z => .inl (List.mem_cons_of_mem _ (List.mem_append_right _ z))) fun z => .inr (List.mem_append_left _ z))) rp'
        have c2 := k3 H' _ _ (fun b hb => hk b (hb.elim (fun z => .inl (List.mem_cons_of_mem _ (List.mem_append_left _ z))) fun z => .inr (List.mem_append_right _ z))) c
        simp only [setP, e1]
        rw [show a :: (A ++ A2) ++ Fc' ++ (B2 ++ B) = a :: (A ++ (A2 ++ Fc' ++ B2) ++ B) by simp]
        exact .ow n ((hk a (.inl List.mem_cons_self)).trans ea) q' c2
/-! ### the methods -/
theorem Reps.reverse : ∀ {xs : List D} {vs : List V} {F : List Addr}, Reps K cA S H xs vs F → ∃ F', Reps K cA S H xs.reverse vs.reverse F' ∧ F'.Perm F
  | [], _, _, h => by cases h; exact ⟨[], .nil, .refl _⟩
  | x :: xs, _, _, h => by
    cases h with
    | @cons _ v F1 _ vs F2 rp rs =>
      obtain ⟨F', h1, h2⟩ := Reps.reverse rs
      refine ⟨F' ++ (F1 ++ []), by rw [List.reverse_cons, List.reverse_cons]; exact Reps.append h1 (.cons rp .nil), ?_⟩
      rw [List.append_nil]
      exact (h2.append_right F1).trans List.perm_append_comm
theorem Reps.cut : ∀ {xs : List D} {vs : List V} {F : List Addr} (n : Nat), Reps K cA S H xs vs F → ∃ F1 F2, F = F1 ++ F2 ∧ Reps K cA S H (xs.take n) (vs.take n) F1 ∧ Reps K cA S H (xs.drop n) (vs.drop n) F2
  | xs, vs, F, 0, h => ⟨[], F, rfl, by simpa using Reps.nil, by simpa using h⟩
  | [], _, _, n + 1, h => by cases h; exact ⟨[], [], rfl, .nil, .nil⟩
  | x :: xs, _, _, n + 1, h => by
    cases h with
    | @cons _ v Fa _ vs Fb rp rs =>
      obtain ⟨F1, F2, e, h1, h2⟩ := Reps.cut n rs
      exact ⟨Fa ++ F1, F2, by rw [e, List.append_assoc], .cons rp h1, h2⟩
def rInsert : V → List V → Hp → VK → Prop := fun x vs H Q => ∃ (l : Addr) (xs : List V) (i : Int) (y : V), x = .ref l ∧ vs = [.int i, y] ∧ H l = some (.lst xs) ∧ xs.length < sizeLine ∧ 0 ≤ i ∧ i < 2 ^ 63 ∧ Q .non (upd H l (.lst (xs.take i.toNat ++ [y] ++ xs.drop i.toNat)))
def rM : M → V → List V → Hp → VK → Prop
  | .append => rAppend
  | .clear => rClear
  | .reverse => rReverse
  | .extend => rExtend
  | .insert => rInsert
  | _ => fun _ _ _ _ => False
theorem m_ok {m : M} {xs ds ys : List D} {d : D} {vs ws : List V} {F0 : List Addr} {a0 : Addr} (sub : Sub S H) (rx : Reps K cA S H xs vs F0) (rd : Reps K cA S H ds ws F) (nd : (F0 ++ F).Nodup) (ha : H a0 = some (.lst vs)) (e : m.ev xs ds = some (ys, d))
    (k : ∀ dv vs' G' Fd, Reps K cA S H ys vs' G' → Rep K cA S H d dv Fd → (G' ++ Fd).Nodup → (∀ a ∈ G' ++ Fd, a ∈ F0 ++ F) → Q dv (upd H a0 (.lst vs'))) : rM m (.ref a0) ws H Q := by
  cases m <;> simp only [M.ev] at e
  · cases ds with
    | nil => simp at e
    | cons d1 ds =>
      cases ds with
      | cons _ _ => simp at e
      | nil =>
        simp only at e
        split at e
        · rename_i hl
          cases e
          cases rd with
          | @cons _ w F1 _ _ F2 r1 r2 =>
          cases r2
          refine ⟨a0, vs, w, rfl, rfl, ha, by rw [← Reps.length rx, sizeLine_eq]; exact hl, k .non _ (F0 ++ (F1 ++ [])) [] (Reps.append rx (.cons r1 .nil)) .non (by simpa using nd) (by simp)⟩
        · cases e
  · cases ds with
    | cons _ _ => simp at e
    | nil =>
      cases e
      cases rd
      exact ⟨a0, vs, rfl, rfl, ha, k .non [] [] [] .nil .non List.nodup_nil (by simp)⟩
  · cases ds with
    | cons _ _ => simp at e
    | nil =>
      cases e
      cases rd
      obtain ⟨F', h1, h2⟩ := Reps.reverse rx
      exact ⟨a0, vs, rfl, rfl, ha, k .non _ F' [] h1 .non (by rw [List.append_nil] at nd ⊢; exact h2.nodup_iff.mpr nd) (fun a ha => by rw [List.append_nil] at ha ⊢; exact h2.mem_iff.mp ha)⟩
  all_goals try (cases ds <;> simp at e; done)
  · cases ds with
    | nil => simp at e
    | cons d0 ds =>
      cases ds with
      | nil => simp at e
      | cons d1 ds =>
        cases ds with
        | cons _ _ => simp at e
        | nil =>
          simp only at e
          split at e
          · rename_i i
            split at e
            · rename_i hl
              cases e
              cases rd with
              | @cons _ wi Fi _ _ Fr r0 rr =>
              cases r0
              cases rr with
              | @cons _ w F1 _ _ F2 r1 r2 =>
              cases r2
              obtain ⟨Fa, Fb, e0, h1, h2⟩ := Reps.cut i.toNat rx
              have pm : ((Fa ++ (F1 ++ [])) ++ Fb).Perm (F0 ++ ([] ++ (F1 ++ []))) := by
                rw [e0]
                simp only [List.append_nil, List.nil_append, List.append_assoc]
                exact (List.perm_append_comm).append_left Fa
              refine ⟨a0, vs, i, w, rfl, rfl, ha, by rw [← Reps.length rx, sizeLine_eq]; exact hl.1, hl.2.1, hl.2.2, k .non _ ((Fa ++ (F1 ++ [])) ++ Fb) [] (Reps.append (Reps.append h1 (.cons r1 .nil)) h2) .non ?_ fun a ha => ?_⟩
              · rw [List.append_nil]
                exact pm.nodup_iff.mpr nd
              · rw [List.append_nil] at ha
                exact pm.mem_iff.mp ha
            · cases e
          · cases e
  cases ds with
  | nil => simp at e
  | cons d1 ds =>
    cases ds with
    | cons _ _ => simp at e
    | nil =>
      simp only at e
      split at e
      · rename_i zs
        split at e
        · rename_i hl
          cases e
          cases rd with
          | @cons _ w F1 _ _ F2 r1 r2 =>
          cases r2
          obtain ⟨b, us, F3, rfl, hb, rz, hs3⟩ : ∃ b us F3, w = .ref b ∧ H b = some (.lst us) ∧ Reps K cA S H zs us F3 ∧ List.Sublist F3 F1 := by
            cases r1 with
            | fz n q rs z => obtain ⟨oo, q1, rfl⟩ := q; exact ⟨_, _, [], rfl, sub _ _ q1, rs, List.Sublist.refl _⟩
            | ow n q1 q rs => cases q; exact ⟨_, _, _, rfl, q1, rs, List.sublist_cons_self _ _⟩
          have nd2 : (F0 ++ F3).Nodup := by
            rw [List.append_nil] at nd
            exact nd.sublist ((List.Sublist.refl F0).append hs3)
          refine ⟨a0, b, vs, us, rfl, rfl, ha, hb, by rw [← Reps.length rx, ← Reps.length rz, sizeLine_eq]; exact hl, k .non _ (F0 ++ F3) [] (Reps.append rx rz) .non (by simpa using nd2) fun a ha => ?_⟩
          simp only [List.append_nil, List.mem_append] at ha ⊢
          exact ha.imp id (fun z => hs3.subset z)
        · cases e
      · cases e
theorem mut_inv {a : Ex} {m : M} {as : Exs} {x : R} (h : (Ex.mut a m as).ev G cl r = some (x, r')) : ∃ ra r1 xs rs r2 ds d, a.ev G cl r = some (ra, r1) ∧ ra.get r1 = some (.nd .lst true xs) ∧ as.ev G cl r1 = some (rs, r2) ∧ tms rs = some ds ∧ mutR r2 ra m ds = some (d, r') ∧ x = .tm d := by
  simp only [Ex.ev] at h
  split at h
  · rename_i ra r1 h1
    split at h
    · rename_i xs h2
      split at h
      · rename_i rs r2 h3
        split at h
        · rename_i ds h4
          split at h
          · rename_i d r3 h5
            cases h
            exact ⟨ra, r1, xs, rs, r2, ds, d, h1, h2, h3, h4, h5, rfl⟩
          · cases h
        · cases h
      · cases h
    · cases h
  · cases h
theorem tms_sls : ∀ {rs : List R} {ds : List D}, tms rs = some ds → sls rs = [] ∧ ∀ q P d, R.sn q P d ∉ rs
  | [], _, _ => ⟨rfl, by simp⟩
  | .tm d :: rs, ds, h => by
    simp only [tms, Option.map_eq_some_iff] at h
    obtain ⟨ds', h1, _⟩ := h
    obtain ⟨h2, h3⟩ := tms_sls h1
    exact ⟨h2, by simpa using h3⟩
  | .sl _ :: _, _, h => by cases h
  | .sn _ _ _ :: _, _, h => by cases h
theorem wrR_sn {e : Env} {q : Nat} {P : List Nat} {d0 d : D} {e' : Env} {f : List D → Option (List D × D)} (h : wrR e (.sn q P d0) f = some (d, e')) : ∃ xs, d0 = .nd .lst true xs := by
  unfold wrR at h
  split at h
  · rename_i z; cases z
  · rename_i z; cases z; exact ⟨_, rfl⟩
  · rename_i z; cases z
  · cases h
theorem wrR_tm {e : Env} {d0 d : D} {e' : Env} {f : List D → Option (List D × D)} (h : wrR e (.tm d0) f = some (d, e')) : ∃ xs, d0 = .nd .lst true xs := by
  unfold wrR at h
  split at h
  · rename_i z; cases z
  · rename_i z; cases z
  · rename_i z; cases z; exact ⟨_, rfl⟩
  · cases h
/-- a list is written: of a slot, within a slot, or of one's own -/
theorem wr_of {ra : R} {x : V} {f : List D → Option (List D × D)} {d : D} {T : V → Prop} {r0 : Env} {p0 : Nat → List Addr} {S0 H0 : Hp} {F1 F : List Addr} (hro : ∀ i, (ra = .sl i ∨ ∃ P d0, ra = .sn i P d0) → L i = false)
    (st2 : Stt X.K cA S2 H2 r2 s p2) (g2 : RRep X.K cA S2 H2 r2 s p2 ra x F1) (td : Tmp S2 p2 F) (djF : ∀ a ∈ F1, a ∈ F → False) (ef : Eff L r0 p0 S0 H0 r2 p2 (F1 ++ F) S2 H2) (h5 : wrR r2 ra f = some (d, r'))
    (hM : ∀ xs ys d vs F0 a0, Reps X.K cA S2 H2 xs vs F0 → (F0 ++ F).Nodup → H2 a0 = some (.lst vs) → f xs = some (ys, d) →
      (∀ dv vs' G' Fd, Reps X.K cA S2 H2 ys vs' G' → Rep X.K cA S2 H2 d dv Fd → (G' ++ Fd).Nodup → (∀ a ∈ G' ++ Fd, a ∈ F0 ++ F) → Q dv (upd H2 a0 (.lst vs'))) → T (.ref a0))
    (k : ∀ (v : V) (S' H' : Hp) (p' : Nat → List Addr) (F : List Addr), Stt X.K cA S' H' r' s p' → RRep X.K cA S' H' r' s p' (.tm d) v F → Eff L r0 p0 S0 H0 r' p' F S' H' → Q v H') : T x := by
  cases ra with
  | sl i =>
    have hi : L i = false := hro i (.inl rfl)
    simp only [wrR] at h5
    split at h5
    · rename_i xs2 hg
      split at h5
      · rename_i ys d2 hm
        cases h5
        obtain ⟨v', hv, rp⟩ := st2.rep i _ hg
        rw [g2.1] at hv; cases hv
        have hp : ∃ G, p2 i = G := ⟨_, rfl⟩
        obtain ⟨PF, hp⟩ := hp
        rw [hp] at rp
        cases rp with
        | @ow _ _ a0 vs o F0 n ho q rx =>
          cases q
          have nd1 := st2.nd i
          rw [hp] at nd1
          have nd0 : (F0 ++ F).Nodup := List.nodup_append.mpr ⟨(List.nodup_cons.mp nd1).2, td.nd, fun a ha b hb e => td.dj i a (by rw [hp]; exact List.mem_cons_of_mem _ ha) (e ▸ hb)⟩
          refine hM _ _ _ _ _ _ rx nd0 ho hm fun dv vs' G' Fd ry rdv ndG hG => ?_
          have na0 : ∀ a ∈ F0 ++ F, a ≠ a0 := fun a ha z => by
            subst z
            rcases List.mem_append.mp ha with z | z
            · exact (List.nodup_cons.mp nd1).1 z
            · exact td.dj i a (by rw [hp]; exact List.mem_cons_self) z
          have own0 : S2 a0 = none := st2.own i a0 (by rw [hp]; exact List.mem_cons_self)
          have inP : ∀ a ∈ F0 ++ F, a ∈ p2 i ∨ a ∈ F := fun a ha => (List.mem_append.mp ha).elim (fun z => .inl (by rw [hp]; exact List.mem_cons_of_mem _ z)) .inr
          have ndG2 := List.nodup_append.mp ndG
          have stx : StX X.K cA [i] S2 (upd H2 a0 (.lst vs')) r2 s p2 := (st2.x [i]).ext (fun _ _ e => e) (fun j a hj ha => upd_ne fun z => st2.dj j i a (fun q => hj (by rw [q]; exact List.mem_cons_self)) ha (by rw [hp, z]; exact List.mem_cons_self)) (fun j a _ ha => st2.own j a ha) fun a o e => by
            rw [upd_ne (ne_of_none e own0)]; exact st2.sub a o e
          have stn := stx.put (T := []) (i := i) (F := a0 :: G') (d := .ol ys) (v := .ref a0) (s' := s) (fun j _ h2 h3 => h2 (by simpa using h3)) (gt_lt hg) rfl g2.1 (fun _ _ => rfl)
            (.ow (by decide) upd_same rfl (Reps.mono (fun _ _ e => e) ys ry fun a ha => upd_ne (na0 a (hG a (List.mem_append_left _ ha)))))
            (List.nodup_cons.mpr ⟨fun z => na0 a0 (hG a0 (List.mem_append_left _ z)) rfl, ndG2.1⟩)
            (fun j _ hj a ha hb => by
              rcases List.mem_cons.mp hb with z | z
              · exact st2.dj j i a hj ha (by rw [hp, z]; exact List.mem_cons_self)
              · rcases inP a (hG a (List.mem_append_left _ z)) with z | z
                · exact st2.dj j i a hj ha z
                · exact td.dj j a ha z)
            (fun a ha => by
              rcases List.mem_cons.mp ha with z | z
              · rw [z]; exact own0
              · rcases inP a (hG a (List.mem_append_left _ z)) with z | z
                · exact st2.own i a z
                · exact td.own a z)
          refine k dv S2 _ (setF p2 i (a0 :: G')) Fd stn.st ⟨Rep.mono (fun _ _ e => e) d rdv fun a ha => upd_ne (na0 a (hG a (List.mem_append_right _ ha))), ndG2.2.1, fun j a ha hb => ?_, fun a ha => ?_⟩ (ef.trans2 (fun _ _ e => e) (fun a o e1 e2 _ => ?_) (fun a o e1 => .inl e1) (fun j hj => ?_) (fun j a hj ha => ?_) (fun a ha => ?_) (List.length_set ..))
          · by_cases z : j = i
            · subst z
              rw [setF_same] at ha
              rcases List.mem_cons.mp ha with z | z
              · exact na0 a (hG a (List.mem_append_right _ hb)) z
              · exact ndG2.2.2 a z a hb rfl
            · rw [setF_ne z] at ha
              rcases inP a (hG a (List.mem_append_right _ hb)) with z2 | z2
              · exact st2.dj j i a z ha z2
              · exact td.dj j a ha z2
          · rcases inP a (hG a (List.mem_append_right _ ha)) with z | z
            · exact st2.own i a z
            · exact td.own a z
          · rw [upd_ne fun z => e2 i hi (by rw [hp, z]; exact List.mem_cons_self)]; exact e1
          · have z : j ≠ i := fun z => by subst z; rw [hi] at hj; cases hj
            exact ⟨by rw [gt_set (gt_lt hg), if_neg z], setF_ne z⟩
          · by_cases z : j = i
            · subst z
              rw [setF_same] at ha
              rcases List.mem_cons.mp ha with z | z
              · exact .inr (.inl ⟨j, hi, by rw [hp, z]; exact List.mem_cons_self⟩)
              · rcases inP a (hG a (List.mem_append_left _ z)) with z | z
                · exact .inr (.inl ⟨j, hi, z⟩)
                · exact .inr (.inr (List.mem_append_right _ z))
            · rw [setF_ne z] at ha
              exact .inr (.inl ⟨j, hj, ha⟩)
          · rcases inP a (hG a (List.mem_append_right _ ha)) with z | z
            · exact .inr (.inl ⟨i, hi, z⟩)
            · exact .inr (.inr (List.mem_append_right _ z))
      · cases h5
    · cases h5
  | sn i P d0 =>
    have hi : L i = false := hro i (.inr ⟨P, d0, rfl⟩)
    obtain ⟨xs, rfl⟩ := wrR_sn h5
    simp only [wrR] at h5
    split at h5
    · rename_i dr hg
      split at h5
      · rename_i ys d2 hm
        cases h5
        obtain ⟨eF, d00, v00, g3, g4, at0⟩ := g2
        rw [hg] at g3; cases g3
        obtain ⟨v', hv, rp0⟩ := st2.rep i _ hg
        rw [g4] at hv; cases hv
        obtain ⟨A, Fc, B, k1, k2, k3⟩ := Rep.split rp0 at0
        cases k2 with
        | @ow _ _ a0 vs o F0 n ho q rx =>
          cases q
          have hp : p2 i = A ++ a0 :: F0 ++ B := k1
          have nd1 := st2.nd i
          have mid : ∀ a, a = a0 ∨ a ∈ F0 → a ∈ p2 i := fun a ha => by
            rw [hp]
            exact List.mem_append_left _ (List.mem_append_right _ (List.mem_cons.mpr ha))
          have side : ∀ a, a ∈ A ∨ a ∈ B → a ∈ p2 i := fun a ha => by
            rw [hp]
            exact ha.elim (fun z => List.mem_append_left _ (List.mem_append_left _ z)) fun z => List.mem_append_right _ z
          rw [hp] at nd1
          obtain ⟨ndA, ndB, dAB⟩ := List.nodup_append.mp nd1
          obtain ⟨ndA1, ndc, dAc⟩ := List.nodup_append.mp ndA
          have sep : ∀ a, a ∈ A ∨ a ∈ B → ¬ (a = a0 ∨ a ∈ F0) := fun a ha hb => by
            rcases ha with ha | ha
            · exact dAc a ha a (List.mem_cons.mpr hb) rfl
            · exact dAB a (List.mem_append_right _ (List.mem_cons.mpr hb)) a ha rfl
          have nd0 : (F0 ++ F).Nodup := List.nodup_append.mpr ⟨(List.nodup_cons.mp ndc).2, td.nd, fun a ha b hb e => td.dj i a (mid a (.inr ha)) (e ▸ hb)⟩
          refine hM _ _ _ _ _ _ rx nd0 ho hm fun dv vs' G' Fd ry rdv ndG hG => ?_
          have na0 : ∀ a ∈ F0 ++ F, a ≠ a0 := fun a ha z => by
            subst z
            rcases List.mem_append.mp ha with z | z
            · exact (List.nodup_cons.mp ndc).1 z
            · exact td.dj i a (mid a (.inl rfl)) z
          have own0 : S2 a0 = none := st2.own i a0 (mid a0 (.inl rfl))
          have inP : ∀ a ∈ F0 ++ F, a ∈ p2 i ∨ a ∈ F := fun a ha => (List.mem_append.mp ha).elim (fun z => .inl (mid a (.inr z))) .inr
          have sepG : ∀ a, a ∈ A ∨ a ∈ B → a ∉ a0 :: G' := fun a ha hb => by
            rcases List.mem_cons.mp hb with z | z
            · exact sep a ha (.inl z)
            · rcases List.mem_append.mp (hG a (List.mem_append_left _ z)) with z | z
              · exact sep a ha (.inr z)
              · exact td.dj i a (side a ha) z
          have ndG2 := List.nodup_append.mp ndG
          have stx : StX X.K cA [i] S2 (upd H2 a0 (.lst vs')) r2 s p2 := (st2.x [i]).ext (fun _ _ e => e) (fun j a hj ha => upd_ne fun z => st2.dj j i a (fun q => hj (by rw [q]; exact List.mem_cons_self)) ha (mid a (.inl z))) (fun j a _ ha => st2.own j a ha) fun a o e => by
            rw [upd_ne (ne_of_none e own0)]; exact st2.sub a o e
          have rpn : Rep X.K cA S2 (upd H2 a0 (.lst vs')) (setP (.ol ys) P dr) v00 (A ++ a0 :: G' ++ B) := k3 _ _ _ (fun a ha => upd_ne fun z => sep a ha (.inl z))
            (.ow (by decide) upd_same rfl (Reps.mono (fun _ _ e => e) ys ry fun a ha => upd_ne (na0 a (hG a (List.mem_append_left _ ha)))))
          have toP : ∀ a ∈ A ++ a0 :: G' ++ B, a ∈ p2 i ∨ a ∈ F := fun a ha => by
            rcases List.mem_append.mp ha with z | z
            · rcases List.mem_append.mp z with z | z
              · exact .inl (side a (.inl z))
              · rcases List.mem_cons.mp z with z | z
                · exact .inl (mid a (.inl z))
                · exact inP a (hG a (List.mem_append_left _ z))
            · exact .inl (side a (.inr z))
          have stn := stx.put (T := []) (i := i) (s' := s) (fun j _ h2 h3 => h2 (by simpa using h3)) (gt_lt hg) rfl g4 (fun _ _ => rfl) rpn
            (by
              refine List.nodup_append.mpr ⟨List.nodup_append.mpr ⟨ndA1, List.nodup_cons.mpr ⟨fun z => na0 a0 (hG a0 (List.mem_append_left _ z)) rfl, ndG2.1⟩, fun a ha b hb e => sepG a (.inl ha) (e ▸ hb)⟩, ndB, fun a ha b hb e => ?_⟩
              subst e
              rcases List.mem_append.mp ha with z | z
              · exact dAB a (List.mem_append_left _ z) a hb rfl
              · exact sepG a (.inr hb) z)
            (fun j _ hj a ha hb => by
              rcases toP a hb with z | z
              · exact st2.dj j i a hj ha z
              · exact td.dj j a ha z)
            (fun a ha => by
              rcases toP a ha with z | z
              · exact st2.own i a z
              · exact td.own a z)
          refine k dv S2 _ (setF p2 i (A ++ a0 :: G' ++ B)) Fd stn.st ⟨Rep.mono (fun _ _ e => e) d rdv fun a ha => upd_ne (na0 a (hG a (List.mem_append_right _ ha))), ndG2.2.1, fun j a ha hb => ?_, fun a ha => ?_⟩ (ef.trans2 (fun _ _ e => e) (fun a o e1 e2 _ => ?_) (fun a o e1 => .inl e1) (fun j hj => ?_) (fun j a hj ha => ?_) (fun a ha => ?_) (List.length_set ..))
          · by_cases z : j = i
            · subst z
              rw [setF_same] at ha
              have hb' := hG a (List.mem_append_right _ hb)
              rcases List.mem_append.mp ha with z | z
              · rcases List.mem_append.mp z with z | z
                · rcases List.mem_append.mp hb' with q | q
                  · exact sep a (.inl z) (.inr q)
                  · exact td.dj j a (side a (.inl z)) q
                · rcases List.mem_cons.mp z with z | z
                  · exact na0 a hb' z
                  · exact ndG2.2.2 a z a hb rfl
              · rcases List.mem_append.mp hb' with q | q
                · exact sep a (.inr z) (.inr q)
                · exact td.dj j a (side a (.inr z)) q
            · rw [setF_ne z] at ha
              rcases inP a (hG a (List.mem_append_right _ hb)) with z2 | z2
              · exact st2.dj j i a z ha z2
              · exact td.dj j a ha z2
          · rcases inP a (hG a (List.mem_append_right _ ha)) with z | z
            · exact st2.own i a z
            · exact td.own a z
          · rw [upd_ne fun z => e2 i hi (mid a (.inl z))]; exact e1
          · have z : j ≠ i := fun z => by subst z; rw [hi] at hj; cases hj
            exact ⟨by rw [gt_set (gt_lt hg), if_neg z], setF_ne z⟩
          · by_cases z : j = i
            · subst z
              rw [setF_same] at ha
              rcases toP a ha with z | z
              · exact .inr (.inl ⟨j, hi, z⟩)
              · exact .inr (.inr (List.mem_append_right _ z))
            · rw [setF_ne z] at ha
              exact .inr (.inl ⟨j, hj, ha⟩)
          · rcases inP a (hG a (List.mem_append_right _ ha)) with z | z
            · exact .inr (.inl ⟨i, hi, z⟩)
            · exact .inr (.inr (List.mem_append_right _ z))
      · cases h5
    · cases h5
  | tm d0 =>
    obtain ⟨xs, rfl⟩ := wrR_tm h5
    simp only [wrR] at h5
    split at h5
    · rename_i ys d2 hm
      cases h5
      obtain ⟨rp, t1⟩ := g2
      cases rp with
      | @ow _ _ a0 vs o F0 n ho q rx =>
        cases q
        have nd0 : (F0 ++ F).Nodup := List.nodup_append.mpr ⟨(List.nodup_cons.mp t1.nd).2, td.nd, fun a ha b hb e => djF a (List.mem_cons_of_mem _ ha) (e ▸ hb)⟩
        refine hM _ _ _ _ _ _ rx nd0 ho hm fun dv vs' G' Fd ry rdv ndG hG => ?_
        have na0 : ∀ a ∈ F0 ++ F, a ≠ a0 := fun a ha z => by
          subst z
          rcases List.mem_append.mp ha with z | z
          · exact (List.nodup_cons.mp t1.nd).1 z
          · exact djF a List.mem_cons_self z
        have own0 : S2 a0 = none := t1.own a0 List.mem_cons_self
        have inF : ∀ a ∈ F0 ++ F, a ∈ (a0 :: F0) ++ F := fun a ha => (List.mem_append.mp ha).elim (fun z => List.mem_append_left _ (List.mem_cons_of_mem _ z)) fun z => List.mem_append_right _ z
        have ndG2 := List.nodup_append.mp ndG
        have stx : StX X.K cA [] S2 (upd H2 a0 (.lst vs')) r' s p2 := (st2.x []).ext (fun _ _ e => e) (fun j a hj ha => upd_ne fun z => t1.dj j a ha (by rw [z]; exact List.mem_cons_self)) (fun j a _ ha => st2.own j a ha) fun a o e => by
          rw [upd_ne (ne_of_none e own0)]; exact st2.sub a o e
        have off : ∀ j a, a ∈ p2 j → a ∉ F0 ++ F := fun j a ha hb => by
          rcases List.mem_append.mp hb with z | z
          · exact t1.dj j a ha (List.mem_cons_of_mem _ z)
          · exact td.dj j a ha z
        refine k dv S2 _ p2 Fd stx.st ⟨Rep.mono (fun _ _ e => e) d rdv fun a ha => upd_ne (na0 a (hG a (List.mem_append_right _ ha))), ndG2.2.1, fun j a ha hb => off j a ha (hG a (List.mem_append_right _ hb)), fun a ha => ?_⟩ (ef.trans2 (fun _ _ e => e) (fun a o e1 _ e3 => ?_) (fun a o e1 => .inl e1) (fun j hj => ⟨rfl, rfl⟩) (fun j a hj ha => .inr (.inl ⟨j, hj, ha⟩)) (fun a ha => .inr (.inr (inF a (hG a (List.mem_append_right _ ha))))) rfl)
        · rcases List.mem_append.mp (hG a (List.mem_append_right _ ha)) with z | z
          · exact t1.own a (List.mem_cons_of_mem _ z)
          · exact td.own a z
        · rw [upd_ne fun z => e3 (by rw [z]; exact List.mem_append_left _ List.mem_cons_self)]; exact e1
    · cases h5
theorem mut_of {a : Ex} {m : M} {as : Exs} (hl : ∀ i, L i = true → Lb i = true) (root : RootOk G cl a Lb) (hroot : ∀ i, rootX a = some i → L i = false) (h : tX X.K cA L (fun r => (Ex.mut a m as).ev G cl r) s H Q) :
    tX X.K cA L (fun r => a.ev G cl r) s H fun x H1 => tyV X.K "list" x H1 ∧ tXs X.K cA Lb (fun r => as.ev G cl r) s H1 fun ws H2 => rM m x ws H2 Q := by
  obtain ⟨S, r, p, y, r', st, e, k⟩ := h
  obtain ⟨ra, r1, xs, rs, r2, ds, d, h1, h2, h3, h4, h5, rfl⟩ := mut_inv e
  have hro := rootX_ok a r ra r1 h1
  refine ⟨S, r, p, ra, r1, st, h1, fun x S1 H1 p1 F1 st1 g1 ef1 => ⟨?_, ?_⟩⟩
  · obtain ⟨W, rp⟩ := RRep.get st1 g1 h2
    obtain ⟨a0, vs, _, rfl, q, _⟩ := Rep.lst st1.sub rp
    exact .inl ⟨rfl, vs, .inl (.of q)⟩
  refine ⟨S1, r1, p1, rs, r2, st1, h3, fun ws S2 H2 p2 F st2 rr ef2 => ?_⟩
  obtain ⟨g2, djF⟩ := RRep.carry st1 g1 ef2 fun q P d e => root _ _ q P d (by rw [h1, e])
  obtain ⟨rd, td⟩ := RReps.tms rr h4
  exact wr_of (T := fun x => rM m x ws H2 Q) (fun i z => by
    rcases z with z | ⟨P, d0, z⟩
    · exact hroot i (by rw [hro.1 i z]; rfl)
    · exact hroot i (hro.2 i P d0 z)) st2 g2 td djF (ef1.trans (ef2.weak hl)) h5 (fun xs ys d vs F0 a0 rx nd0 ho hm kk => m_ok st2.sub rx rd nd0 ho hm kk) k
end
end TK
/-! TK, part 14: targets, what is walked, comprehensions. Own work. -/
namespace TK
open PySem L2
section
variable {K : PySem.W.Frag} {X : Cx} {cA : Nat → Addr} {G : Sig} {cl : Cl} {L Lb Lc Pt : LK}
variable {r r' r1 r2 r3 : Env} {p p' p1 p2 : Nat → List Addr} {S S' S1 S2 H H' H1 H2 : Hp} {F F1 F2 : List Addr} {s s' : St} {Q : VK}
/-! ### methods of a list -/
theorem plainBase {o : Expr} {n : Str} {env : PySem.Env} {w : Sem Value} (h : plainO o = true) : attributeBase o n env w = w := by
  unfold attributeBase
  split
  · simp [plainO] at h
  · rfl
theorem mut_slot {m : M} {f : Str} (hm : mutOf f = some m) : ∃ id, Slot "list" f id ∧ typeOf (.builtin id) = pure (.type "method_descriptor") ∧ MtR X id (rM m) := by
  unfold mutOf at hm
  split at hm
  · rename_i e; subst e; cases hm; exact ⟨_, F.slot_list_append, F.type_list_append, mt_append⟩
  split at hm
  · rename_i e; subst e; cases hm; exact ⟨_, F.slot_list_clear, F.type_list_clear, mt_clear⟩
  split at hm
  · rename_i e; subst e; cases hm; exact ⟨_, F.slot_list_reverse, F.type_list_reverse, mt_reverse⟩
  split at hm
  · rename_i e; subst e; cases hm; exact ⟨_, F.slot_list_extend, F.type_list_extend, mt_extend⟩
  split at hm
  · rename_i e; subst e; cases hm; exact ⟨_, F.slot_list_insert, F.type_list_insert, mt_insert⟩
  · cases hm
theorem e_mut {m : M} {f : Str} {o : Expr} {xo : Ex} {es : List Expr} {xs : Exs} {apos pos : Pos} (hm : mutOf f = some m) (hb : plainO o = true) (hline : (apos.endLine == pos.line) = true) (hs : es.all noStar = true) (hn : es.length ≤ 2) (hx : es = [] → xs = .nil)
    (ho : OkE X cA G cl L o xo) (ha : OkA X cA G cl Lb es xs) (hl : ∀ i, L i = true → Lb i = true) (root : RootOk G cl xo Lb) (hroot : ∀ i, rootX xo = some i → L i = false) : OkE X cA G cl L (.Call (.Attribute o f apos) es [] pos) (.mut xo m xs) := by
  obtain ⟨id, h1, h2, h3⟩ := mut_slot (X := X) hm
  cases es with
  | nil =>
    have ex := hx rfl
    subst ex
    refine PE.imp (pe_bm0 F.plainAttrs_list h1 h2 h3 ho (plainBase hb) hline) fun s H Q h => ?_
    obtain ⟨S, r, p, y, r', st, e, k⟩ := mut_of hl root hroot h
    refine ⟨S, r, p, y, r', st, e, fun v S' H' p' F st' rr ef => ?_⟩
    obtain ⟨k1, S2, r2, p2, ys, r3, st2, e2, k2⟩ := k v S' H' p' F st' rr ef
    cases e2
    exact ⟨k1, k2 [] S2 H' p2 [] st2 .nil Eff.refl⟩
  | cons e es =>
    simp only [List.all_cons, Bool.and_eq_true] at hs
    have hfew : ((backTo pos (starEach (e :: es) X.env)).all (fun x => !x.1) && (backToKw pos (keywordEach [] X.env)).all (fun x => x.1.isSome)
      && decide ((e :: es).length + ([] : List Keyword).length + (if ([] : List Keyword).isEmpty then 0 else 1) < 30)) = true := by
      have n1 : (backTo pos (starEach (e :: es) X.env)).any (·.1) = false := noStars (by simp [hs])
      have n2 : (backTo pos (starEach (e :: es) X.env)).all (fun x => !x.1) = true := by
        rw [List.all_eq_not_any_not]
        simpa using n1
      rw [n2]
      simp [keywordEach, backToKw]
      simp at hn
      omega
    exact PE.imp (pe_bm F.plainAttrs_list h1 h2 h3 ho ha (plainBase hb) hfew hline (starEach_cons hs.1) (noStars hs.2)) fun s H Q h => mut_of hl root hroot h
/-! ### targets -/
def gs : List Nat → TGs
  | [] => gNil
  | i :: is => gCons (gName i) (gs is)
def gTg (K : PySem.W.Frag) : Tg → TG
  | .nm i => gName i
  | .tp is => fun v s H Q => gTup K is.length (gs is) v s H Q ∨ gUnl K is.length (gs is) v s H Q
/-- the slots' effect, and that of what they hold -/
structure EffS (L Pt : LK) (r : Env) (s : St) (p : Nat → List Addr) (S H : Hp) (r' : Env) (s' : St) (p' : Nat → List Addr) (F : List Addr) (S' H' : Hp) : Prop where
  ef : Eff L r p S H r' p' F S' H'
  len : s'.length = s.length
  lk : ∀ i, L i = true ∨ Pt i = true → s'[i]? = s[i]?
theorem EffS.refl : EffS L Pt r s p S H r s p [] S H := ⟨Eff.refl, rfl, fun _ _ => rfl⟩
theorem EffS.of (h : Eff L r p S H r' p' F S' H') : EffS L Pt r s p S H r' s p' F S' H' := ⟨h, rfl, fun _ _ => rfl⟩
theorem EffS.trans {s1 s2 : St} (h : EffS L Pt r s p S H r1 s1 p1 F1 S1 H1) (g : EffS L Pt r1 s1 p1 S1 H1 r2 s2 p2 F2 S2 H2) : EffS L Pt r s p S H r2 s2 p2 (F1 ++ F2) S2 H2 :=
  ⟨h.ef.trans g.ef, g.len.trans h.len, fun i z => (g.lk i z).trans (h.lk i z)⟩
theorem EffS.drop (h : EffS L Pt r s p S H r' s' p' F S' H') {W : List Addr} (hg : ∀ a ∈ W, a ∈ F) : EffS L Pt r s p S H r' s' p' W S' H' := ⟨h.ef.drop hg, h.len, h.lk⟩
theorem EffS.weak {L' : LK} (h : EffS L' Pt r s p S H r' s' p' F S' H') (hl : ∀ i, L i = true → L' i = true) : EffS L Pt r s p S H r' s' p' F S' H' := ⟨h.ef.weak hl, h.len, fun i z => h.lk i (z.imp (hl i) id)⟩
/-- one slot is written with what is in the hand -/
theorem put1 {i : Nat} {d : D} {v : V} (st : Stt K cA S H r s p) (hi : i < r.length) (rp : Rep K cA S H d v F) (tm : Tmp S p F) : Stt K cA S H (r.set i (some d)) (s.set i (some v)) (setF p i F) := by
  have hs : i < s.length := by rw [← st.len]; exact hi
  exact ((st.x []).put (T := []) (fun _ _ _ => by simp) hi (List.length_set ..) (by rw [List.getElem?_set_self hs]) (fun j hj => List.getElem?_set_ne (fun z => hj z.symm)) rp tm.nd (fun j _ _ a => tm.dj j a) tm.own).st
/-- .. its effect, the hand's footprint let into the slots -/
theorem eff_put {i : Nat} {d : Option D} {r0 : Env} {p0 : Nat → List Addr} {S0 H0 : Hp} (hi : i < r.length) (hL : L i = false) (e : Eff L r0 p0 S0 H0 r p F S H) (hF : ∀ a ∈ F1 ++ F2, a ∈ F) : Eff L r0 p0 S0 H0 (r.set i d) (setF p i F1) F2 S H := by
  refine e.trans2 (fun _ _ e => e) (fun _ _ e _ _ => e) (fun _ _ e => .inl e) (fun j hj => ?_) (fun j a hj ha => ?_) (fun a ha => .inr (.inr (hF a (List.mem_append_right _ ha)))) (List.length_set ..)
  · have z : j ≠ i := fun z => by subst z; rw [hL] at hj; cases hj
    exact ⟨by rw [gt_set hi, if_neg z], setF_ne z⟩
  · by_cases z : j = i
    · subst z
      rw [setF_same] at ha
      exact .inr (.inr (hF a (List.mem_append_left _ ha)))
    · rw [setF_ne z] at ha
      exact .inr (.inl ⟨j, hj, ha⟩)
/-- a list of slots is written -/
theorem binds_ok : ∀ {is : List Nat} {ds : List D} {vs : List V} {r0 r : Env} {p0 p : Nat → List Addr} {S0 H0 : Hp} {s0 s : St} {F0 F : List Addr} {R : St → Hp → Prop}, ds.length = is.length → (∀ i ∈ is, i < r.length ∧ L i = false ∧ Pt i = false) → Stt K cA S H r s p → Reps K cA S H ds vs F → Tmp S p F →
    EffS L Pt r0 s0 p0 S0 H0 r s p F0 S H → (∀ a ∈ F, a ∈ F0) → (∀ s' p', Stt K cA S H ((is.zip ds).foldl (fun e p => e.set p.1 (some p.2)) r) s' p' → EffS L Pt r0 s0 p0 S0 H0 ((is.zip ds).foldl (fun e p => e.set p.1 (some p.2)) r) s' p' [] S H → (∀ j, j ∉ is → s'[j]? = s[j]?) → R s' H) → gs is vs s H R
  | [], ds, vs, r0, r, p0, p, S0, H0, s0, s, F0, F, R, hl, hi, st, rs, tm, ef, hF, k => by
    have : ds = [] := List.length_eq_zero_iff.mp hl
    subst this
    cases rs
    exact ⟨rfl, k s p st (ef.drop fun a ha => absurd ha (by simp)) fun _ _ => rfl⟩
  | i :: is, ds, vs, r0, r, p0, p, S0, H0, s0, s, F0, F, R, hl, hi, st, rs, tm, ef, hF, k => by
    cases rs with
    | nil => simp at hl
    | @cons d v F1 ds vs F2 rp rs =>
      have hi1 := hi i List.mem_cons_self
      have t1 : Tmp S p F1 := tm.sub (List.sublist_append_left _ _)
      have t2 : Tmp S p F2 := tm.sub (List.sublist_append_right _ _)
      have nd := List.nodup_append.mp tm.nd
      have st2 := put1 st hi1.1 rp t1
      refine ⟨v, vs, rfl, ?_⟩
      refine binds_ok (is := is) (by simpa using hl) (fun j hj => by rw [List.length_set]; exact hi j (List.mem_cons_of_mem _ hj)) st2 rs (F0 := F2) ⟨nd.2.1, fun j a ha hb => ?_, t2.own⟩ ⟨eff_put hi1.1 hi1.2.1 ef.ef (fun a ha => hF a ha), ?_, fun j hj => ?_⟩ (fun _ ha => ha) fun s' p' st' ef' ho => k s' p' st' ef' fun j hj => ?_
      · by_cases z : j = i
        · subst z
          rw [setF_same] at ha
          exact nd.2.2 a ha a hb rfl
        · rw [setF_ne z] at ha
          exact t2.dj j a ha hb
      · rw [List.length_set]; exact ef.len
      · rw [List.getElem?_set_ne (fun z => by subst z; rw [hi1.2.1, hi1.2.2] at hj; rcases hj with hj | hj <;> cases hj)]; exact ef.lk j hj
      · rw [ho j (fun z => hj (List.mem_cons_of_mem _ z)), List.getElem?_set_ne (fun z => hj (by rw [z]; exact List.mem_cons_self))]
theorem bind_ok {tg : Tg} {d : D} {v : V} {r0 : Env} {p0 : Nat → List Addr} {S0 H0 : Hp} {s0 : St} {F0 : List Addr} {R : St → Hp → Prop} (hb : bindTg r d tg = some r') (hi : ∀ i ∈ tgs tg, L i = false ∧ Pt i = false) (st : Stt K cA S H r s p) (rp : Rep K cA S H d v F) (tm : Tmp S p F)
    (ef : EffS L Pt r0 s0 p0 S0 H0 r s p F0 S H) (hF : ∀ a ∈ F, a ∈ F0) (k : ∀ s' p', Stt K cA S H r' s' p' → EffS L Pt r0 s0 p0 S0 H0 r' s' p' [] S H → (∀ j, j ∉ tgs tg → s'[j]? = s[j]?) → R s' H) : gTg K tg v s H R := by
  cases tg with
  | nm i =>
    simp only [bindTg] at hb
    split at hb
    case isFalse => cases hb
    rename_i hlt
    cases hb
    have h1 : i < r.length ∧ L i = false ∧ Pt i = false := ⟨hlt, hi i (by simp [tgs])⟩
    exact k _ (setF p i F) (put1 st h1.1 rp tm) ⟨eff_put h1.1 h1.2.1 ef.ef (by simpa using hF), by rw [List.length_set]; exact ef.len, fun j hj => by
      rw [List.getElem?_set_ne (fun z => by subst z; rw [h1.2.1, h1.2.2] at hj; rcases hj with hj | hj <;> cases hj)]; exact ef.lk j hj⟩ fun j hj => List.getElem?_set_ne (fun z => hj (by simp [tgs, z]))
  | tp is =>
    simp only [bindTg] at hb
    split at hb
    · rename_i xs hx
      split at hb
      · rename_i hl
        cases hb
        have un : ∃ a vs G', v = .ref a ∧ (SqT K H a vs ∨ SqL K H a vs) ∧ Reps K cA S H xs vs G' ∧ (∀ a ∈ G', a ∈ F) ∧ Tmp S p G' := by
          cases rp with
          | non => cases hx
          | bl _ => cases hx
          | int _ => cases hx
          | str _ => cases hx
          | tup q rs => cases hx; exact ⟨_, _, F, rfl, .inl (.inl (.inl (st.sub _ _ q))), rs, fun _ h => h, tm⟩
          | @fz kk ys a vs n q rs z =>
            cases kk <;> simp [asSeq] at hx
            · exact absurd rfl n
            · subst hx; obtain ⟨o, e1, e2⟩ := q; cases e2; exact ⟨_, _, [], rfl, .inr (.inl (.of (st.sub _ _ e1))), rs, by simp, Tmp.nil⟩
            · subst hx; exact ⟨_, _, [], rfl, .inr (SqL.mono st.sub q), rs, by simp, Tmp.nil⟩
            · subst hx; exact ⟨_, _, [], rfl, .inl (SqT.mono st.sub q), rs, by simp, Tmp.nil⟩
          | @ow kk ys a vs o G2 n he q rs =>
            cases kk <;> simp [asSeq] at hx
            · exact absurd rfl n
            · subst hx; cases q; exact ⟨_, _, G2, rfl, .inr (.inl (.of he)), rs, fun a ha => List.mem_cons_of_mem _ ha, tm.sub (List.sublist_cons_self _ _)⟩
            · exact absurd q (by simp [HoIs])
            · exact absurd q (by simp [HoIs])
        obtain ⟨a, vs, G', rfl, q, rs, hsub, tm'⟩ := un
        have hlen : vs.length = is.length := by rw [← Reps.length rs]; exact hl.1
        have fin := binds_ok (K := K) (cA := cA) (Pt := Pt) (L := L) (F0 := F0) (R := R) hl.1 (fun i h => ⟨by simpa using List.all_eq_true.mp hl.2 i h, hi i h⟩) st rs tm' ef (fun a ha => hF a (hsub a ha)) k
        rcases q with q | q
        · exact .inl ⟨a, vs, rfl, q, hlen, fin⟩
        · exact .inr ⟨a, vs, rfl, q, hlen, fin⟩
      · cases hb
    · cases hb
/-- slots are forgotten -/
theorem wipe1 {i : Nat} (st : Stt K cA S H r s p) (hi : i < r.length) (hs : s'.length = s.length) (ho : ∀ j, j ≠ i → s'[j]? = s[j]?) : Stt K cA S H (r.set i none) s' (setF p i []) := by
  refine ⟨st.sub, by rw [List.length_set, hs]; exact st.len, fun j d e => ?_, fun j e => ?_, fun j => ?_, fun j k a hjk ha hb => ?_, fun j a ha => ?_⟩
  · rw [gt_set hi] at e
    by_cases z : j = i
    · rw [if_pos z] at e; cases e
    · rw [if_neg z] at e
      rw [setF_ne z, ho j z]
      exact st.rep j d e
  · by_cases z : j = i
    · subst z; rw [setF_same]
    · rw [gt_set hi, if_neg z] at e
      rw [setF_ne z]
      exact st.emp j e
  · by_cases z : j = i
    · subst z; rw [setF_same]; exact List.nodup_nil
    · rw [setF_ne z]; exact st.nd j
  · by_cases z : j = i
    · subst z; rw [setF_same] at ha; cases ha
    · by_cases z2 : k = i
      · subst z2; rw [setF_same] at hb; cases hb
      · rw [setF_ne z] at ha
        rw [setF_ne z2] at hb
        exact st.dj j k a hjk ha hb
  · by_cases z : j = i
    · subst z; rw [setF_same] at ha; cases ha
    · rw [setF_ne z] at ha; exact st.own j a ha
def wipeR (r : Env) : List Nat → Env
  | [] => r
  | i :: is => wipeR (r.set i none) is
theorem wipeE_eq (r : Env) (tg : Tg) : wipeE r tg = wipeR r (tgs tg) := by
  cases tg with
  | nm i => rfl
  | tp is =>
    show is.foldl (fun e i => e.set i none) r = wipeR r is
    induction is generalizing r with
    | nil => rfl
    | cons i is ih => exact ih _
theorem wipes_ok : ∀ {is : List Nat} {r0 r : Env} {p0 p : Nat → List Addr} {S0 H0 : Hp} {s s' : St} {F0 : List Addr}, (∀ i ∈ is, L i = false) → Stt K cA S H r s p → s'.length = s.length → (∀ j, j ∉ is → s'[j]? = s[j]?) → Eff L r0 p0 S0 H0 r p F0 S H →
    ∃ p', Stt K cA S H (wipeR r is) s' p' ∧ Eff L r0 p0 S0 H0 (wipeR r is) p' F0 S H ∧ (∀ j, ∀ a ∈ p' j, a ∈ p j) ∧ (∀ j, j ∉ is → gt (wipeR r is) j = gt r j) ∧ ∀ j ∈ is, gt (wipeR r is) j = none
  | [], r0, r, p0, p, S0, H0, s, s', F0, hi, st, hl, ho, ef => by
    have e : s' = s := List.ext_getElem? fun j => ho j (by simp)
    subst e
    exact ⟨p, st, ef, fun _ _ h => h, fun _ _ => rfl, by simp⟩
  | i :: is, r0, r, p0, p, S0, H0, s, s', F0, hi, st, hl, ho, ef => by
    by_cases hlt : i < r.length
    case neg =>
      have e0 : r.set i none = r := List.set_eq_of_length_le (by omega)
      obtain ⟨p', k1, k2, k3, k4, k5⟩ := wipes_ok (is := is) (s' := s') (fun j hj => hi j (List.mem_cons_of_mem _ hj)) st hl (fun j hj => by
          by_cases z : j = i
          · subst z
            rw [List.getElem?_eq_none (by rw [hl, ← st.len]; omega), List.getElem?_eq_none (by rw [← st.len]; omega)]
          · exact ho j fun q => (List.mem_cons.mp q).elim z hj) ef
      have e1 : wipeR r (i :: is) = wipeR r is := by show wipeR (r.set i none) is = _; rw [e0]
      rw [e1]
      refine ⟨p', k1, k2, k3, fun j hj => k4 j fun z => hj (List.mem_cons_of_mem _ z), fun j hj => ?_⟩
      by_cases z : j ∈ is
      · exact k5 j z
      · rw [k4 j z]
        have : j = i := (List.mem_cons.mp hj).elim id fun q => (z q).elim
        subst this
        unfold gt
        rw [List.getElem?_eq_none (by omega)]
    have h1 : i < r.length ∧ L i = false := ⟨hlt, hi i List.mem_cons_self⟩
    have hs : i < s.length := by rw [← st.len]; exact h1.1
    -- a middle state: i forgotten
    have st1 : Stt K cA S H (r.set i none) (s.set i (s'[i]?.getD none)) (setF p i []) := wipe1 st h1.1 (List.length_set ..) fun j hj => List.getElem?_set_ne (fun z => hj z.symm)
    obtain ⟨p', k1, k2, k3, k4, k5⟩ := wipes_ok (is := is) (s' := s') (fun j hj => hi j (List.mem_cons_of_mem _ hj)) st1 (by rw [List.length_set]; exact hl) (fun j hj => by
        by_cases z : j = i
        · subst z
          rw [List.getElem?_set_self hs]
          have : j < s'.length := by rw [hl]; exact hs
          rw [List.getElem?_eq_getElem this]
          rfl
        · rw [List.getElem?_set_ne (fun q => z q.symm)]
          exact ho j fun q => (List.mem_cons.mp q).elim z hj)
      (eff_put (F1 := []) (F2 := F0) (d := none) h1.1 h1.2 ef (by simp))
    refine ⟨p', k1, k2, fun j a ha => ?_, fun j hj => ?_, fun j hj => ?_⟩
    · have := k3 j a ha
      by_cases z : j = i
      · subst z; rw [setF_same] at this; cases this
      · rw [setF_ne z] at this; exact this
    · show gt (wipeR (r.set i none) is) j = _
      rw [k4 j fun z => hj (List.mem_cons_of_mem _ z), gt_set h1.1, if_neg (fun (z : j = i) => hj (by rw [z]; exact List.mem_cons_self))]
    · show gt (wipeR (r.set i none) is) j = _
      by_cases z : j ∈ is
      · exact k5 j z
      · rw [k4 j z]
        have : j = i := (List.mem_cons.mp hj).elim id fun q => (z q).elim
        rw [gt_set h1.1, if_pos this]
end
end TK
/-! TK, part 14b: fields, methods, new instances, split. Own work. -/
namespace TK
open PySem L2
section
variable {K : PySem.W.Frag} {X : Cx} {cA : Nat → Addr} {G : Sig} {cl : Cl} {L Lb Lc : LK}
variable {r r' r1 r2 r3 : Env} {p p' p1 p2 : Nat → List Addr} {S S' S1 S2 H H' H1 H2 : Hp} {F F1 F2 : List Addr} {s s' : St} {Q : VK}
/-! ### fields -/
theorem zip_lookup : ∀ {ns : List Str} {vs : List V} {n : Str} {j : Nat} {w : V}, ns.findIdx? (· = n) = some j → vs[j]? = some w → (ns.zip vs).lookup n = some w
  | [], _, _, _, _, h, _ => by simp at h
  | m :: ns, [], _, j, _, _, e => by simp at e
  | m :: ns, v :: vs, n, j, w, h, e => by
    rw [List.findIdx?_cons] at h
    rw [List.zip_cons_cons, List.lookup_cons]
    by_cases z : m = n
    · subst z
      simp at h
      subst h
      simp at e
      simp [e]
    · have hb : (n == m) = false := beq_eq_false_iff_ne.mpr fun q => z q.symm
      rw [hb]
      simp [z] at h
      obtain ⟨i, h1, rfl⟩ := h
      exact zip_lookup (by simpa using h1) (by simpa using e)
theorem zip_none : ∀ {ns : List Str} {vs : List V} {n : Str}, ns.contains n = false → (ns.zip vs).lookup n = none
  | [], _, _, _ => by simp
  | m :: ns, [], _, _ => by simp
  | m :: ns, v :: vs, n, h => by
    rw [List.contains_cons, Bool.or_eq_false_iff] at h
    rw [List.zip_cons_cons, List.lookup_cons, h.1]
    exact zip_none h.2
theorem Rep.fieldv {c : Nat} {ns : List Str} {o : Bool} {xs : List D} {v : V} {n : Str} {j : Nat} {x : D} (sub : Sub S H) (rp : Rep K cA S H (.nd (.ins c ns) o xs) v F) (h : ns.findIdx? (· = n) = some j) (e : xs[j]? = some x) :
    ∃ a dx vs w F', v = .ref a ∧ H a = some (.ins (cA c) dx (ns.zip vs)) ∧ (ns.zip vs).lookup n = some w ∧ Rep K cA S H x w F' ∧ List.Sublist F' F ∧ (x.fz = false → AtP cA S H (.nd (.ins c ns) o xs) v [j] x w) := by
  cases rp with
  | @fz k ys a vs q1 q rs z =>
    obtain ⟨w, F', h1, h2, h3⟩ := Reps.get rs e
    obtain ⟨oo, e1, _, l, dx, rfl⟩ := q
    exact ⟨a, dx, vs, w, F', rfl, sub _ _ e1, zip_lookup h h1, h2, h3, fun f => by rw [fzs_get z e] at f; cases f⟩
  | @ow k ys a vs oo G n' he q rs =>
    obtain ⟨w, F', h1, h2, h3⟩ := Reps.get rs e
    have q' := q
    obtain ⟨_, l, dx, rfl⟩ := q'
    exact ⟨a, dx, vs, w, F', rfl, he, zip_lookup h h1, h2, h3.trans (List.sublist_cons_self _ _), fun _ => .ow n' he q e h1 .nil⟩
theorem Rep.insv {c : Nat} {ns : List Str} {o : Bool} {xs : List D} {v : V} (sub : Sub S H) (rp : Rep K cA S H (.nd (.ins c ns) o xs) v F) : ∃ a dx vs, v = .ref a ∧ H a = some (.ins (cA c) dx (ns.zip vs)) := by
  cases rp with
  | @fz k ys a vs q1 q rs z =>
    obtain ⟨oo, e1, _, l, dx, rfl⟩ := q
    exact ⟨a, dx, vs, rfl, sub _ _ e1⟩
  | @ow k ys a vs oo G n' he q rs =>
    obtain ⟨_, l, dx, rfl⟩ := q
    exact ⟨a, dx, vs, rfl, he⟩
theorem e_fld {a : Expr} {n : Str} {xa : Ex} {pos : Pos} (hC : ∀ ci, G.flds ci n = true → Cls X.K (cA ci) ∧ NoAttr X.K (cA ci) n) (hb : plainO a = true) (ha : OkE X cA G cl L a xa) : OkE X cA G cl L (.Attribute a n pos) (.fld xa n) := by
  refine PE.imp (pe_fld ha (plainBase hb)) fun s H Q ⟨S, r, p, x, r', st, e, k⟩ => ?_
  obtain ⟨ra, h1, h2⟩ := fld_inv e
  refine ⟨S, r, p, ra, r', st, h1, fun y S2 H2 p2 F st2 g1 ef => ?_⟩
  obtain ⟨c, ns, o, xs, j, d, e1, e2, e3, e5, e6⟩ := fldR_cases h2
  obtain ⟨k1, k2⟩ := hC c e2
  cases ra with
  | sl q =>
    obtain ⟨v', hv, rp⟩ := st2.rep q _ e1
    rw [g1.1] at hv; cases hv
    obtain ⟨a, dx, vs, w, F', rfl, q1, q2, rpi, sl, at_⟩ := Rep.fieldv st2.sub rp e3 e5
    refine ⟨a, _, dx, _, w, rfl, q1, k1, k2, q2, ?_⟩
    rcases e6 with ⟨hf, rfl⟩ | ⟨hf, ⟨q', e9, rfl⟩ | ⟨q', P, d', e9, rfl⟩ | ⟨d', e9, rfl⟩⟩
    · exact k _ S2 H2 p2 [] st2 ⟨Rep.fzmono (fun _ _ e => e) rpi hf, Tmp.nil⟩ (ef.drop fun a ha => absurd ha (by simp))
    · cases e9
      exact k _ S2 H2 p2 [] st2 ⟨rfl, _, _, e1, g1.1, at_ hf⟩ (ef.drop fun a ha => absurd ha (by simp))
    · cases e9
    · cases e9
  | sn q P d' =>
    obtain ⟨ef1, d00, v00, g3, g4, at0⟩ := g1
    cases (Option.some.inj e1)
    obtain ⟨v', hv, rp0⟩ := st2.rep q d00 g3
    rw [g4] at hv; cases hv
    obtain ⟨F0, rp, _⟩ := AtP.rep at0 rp0
    obtain ⟨a, dx, vs, w, F', rfl, q1, q2, rpi, sl, at_⟩ := Rep.fieldv st2.sub rp e3 e5
    refine ⟨a, _, dx, _, w, rfl, q1, k1, k2, q2, ?_⟩
    rcases e6 with ⟨hf, rfl⟩ | ⟨hf, ⟨q', e9, rfl⟩ | ⟨q', P, d', e9, rfl⟩ | ⟨d', e9, rfl⟩⟩
    · exact k _ S2 H2 p2 [] st2 ⟨Rep.fzmono (fun _ _ e => e) rpi hf, Tmp.nil⟩ (ef.drop fun a ha => absurd ha (by simp))
    · cases e9
    · cases e9
      exact k _ S2 H2 p2 [] st2 ⟨rfl, d00, v00, g3, g4, at0.snoc (at_ hf)⟩ (ef.drop fun a ha => absurd ha (by simp))
    · cases e9
  | tm d' =>
    obtain ⟨rp, tm⟩ := g1
    cases (Option.some.inj e1)
    obtain ⟨a, dx, vs, w, F', rfl, q1, q2, rpi, sl, at_⟩ := Rep.fieldv st2.sub rp e3 e5
    refine ⟨a, _, dx, _, w, rfl, q1, k1, k2, q2, ?_⟩
    have e7 : x = .tm d := by
      rcases e6 with ⟨hf, rfl⟩ | ⟨hf, ⟨q', e9, rfl⟩ | ⟨q', P, d', e9, rfl⟩ | ⟨d', e9, rfl⟩⟩
      · rfl
      · cases e9
      · cases e9
      · rfl
    subst e7
    exact k _ S2 H2 p2 F' st2 ⟨rpi, tm.sub sl⟩ (ef.drop fun a ha => sl.subset ha)
/-! ### methods of instances -/
theorem meth_inv {m : Str} {a : Ex} {as : Exs} {x : R} (h : (Ex.meth m a as).ev G cl r = some (x, r')) : ∃ ra r1 ci ns o xs f rs r2 ds d ds', a.ev G cl r = some (ra, r1) ∧ ra.get r1 = some (.nd (.ins ci ns) o xs) ∧ ns.contains m = false ∧ G.meths ci m = some f ∧
    as.ev G cl r1 = some (rs, r2) ∧ gets r2 (ra :: rs) = some ds ∧ lentOk r2 (ra :: rs) [] = true ∧ cl f ds = some (d, ds') ∧ x = .tm d ∧ r' = back r2 (ra :: rs) ds' := by
  simp only [Ex.ev] at h
  split at h
  · rename_i ra e1 h1
    split at h
    · rename_i ci ns o xs h2
      split at h
      · cases h
      · rename_i h3
        split at h
        · rename_i f h4
          split at h
          · rename_i rs e2 h5
            split at h
            · rename_i ds h6
              split at h
              · rename_i h7
                split at h
                · rename_i d ds' h8
                  cases h
                  exact ⟨ra, e1, ci, ns, o, xs, f, rs, e2, ds, d, ds', h1, h2, by simpa using h3, h4, h5, h6, h7, h8, rfl, rfl⟩
                · cases h
              · cases h
            · cases h
          · cases h
        · cases h
    · cases h
  · cases h
theorem RRep.insv {ra : R} {x : V} {ci : Nat} {ns : List Str} {o : Bool} {xs : List D} (st : Stt K cA S H r s p) (rr : RRep K cA S H r s p ra x F) (h : ra.get r = some (.nd (.ins ci ns) o xs)) : ∃ a dx vs, x = .ref a ∧ H a = some (.ins (cA ci) dx (ns.zip vs)) := by
  obtain ⟨W, rp⟩ := RRep.get st rr h
  exact Rep.insv st.sub rp
theorem meth_of {m : Str} {a : Ex} {as : Exs} {n : Nat → Nat} {E : XK} (hl : ∀ i, L i = true → Lb i = true) (root : RootOk G cl a Lb) (hn : ∀ f ds d ds', cl f ds = some (d, ds') → ds.length = n f) (hu : ∀ i ∈ (Exs.cons a as).pks, L i = false)
    (h : tX X.K cA L (fun r => (Ex.meth m a as).ev G cl r) s H Q) :
    ∃ ci f, G.meths ci m = some f ∧ tMeth (cA ci) m (spC X.K cA cl f (n f)) [] E (tX X.K cA L fun r => a.ev G cl r) (tXs X.K cA Lb fun r => as.ev G cl r) s H Q := by
  obtain ⟨S, r, p, x, r', st, e, k⟩ := h
  obtain ⟨ra, r1, ci, ns, o, xs, f, rs, r2, ds, d, ds', h1, h2, h3, h4, h5, h6, h7, h8, rfl, rfl⟩ := meth_inv e
  refine ⟨ci, f, h4, S, r, p, ra, r1, st, h1, fun x S1 H1 p1 F1 st1 rr1 ef1 => ?_⟩
  obtain ⟨a0, dx, vs, rfl, ha⟩ := RRep.insv st1 rr1 h2
  refine ⟨a0, dx, _, rfl, ha, zip_none h3, S1, r1, p1, rs, r2, st1, h5, fun vs2 S2 H2 p2 F2 st2 rr2 ef2 => ?_⟩
  obtain ⟨c1, c2⟩ := RRep.carry st1 rr1 ef2 fun q P d e => root _ _ q P d (by rw [h1, e])
  have hev : (Exs.cons a as).ev G cl r = some (ra :: rs, r2) := by simp only [Exs.ev, h1, h5]
  have q := call_tail (df := []) (n := n f) (f := f) (cA := cA) (cl := cl) (E := E) (L := L) (Q := Q) (d := d) (ds := ds) (ds' := ds') st2 (.cons c1 rr2 c2) (ef1.trans (ef2.weak hl)) (fun i hi => hu i (pks_ok hev i hi)) h6 h7 (by simpa using h8) (fun ds d ds' => hn f ds d ds') k
  simpa using q
theorem few_ok {e : Expr} {es : List Expr} {env : PySem.Env} {pos : Pos} (hs : (e :: es).all noStar = true) (hlen : (e :: es).length ≤ 20) : methodCallForm ((e :: es).length + ([] : List Keyword).length) (backTo pos (starEach (e :: es) env)) (backToKw pos (keywordEach [] env)) = true := by
  have n1 : (backTo pos (starEach (e :: es) env)).any (·.1) = false := noStars hs
  have n2 : (backTo pos (starEach (e :: es) env)).all (fun x => !x.1) = true := by
    rw [List.all_eq_not_any_not]
    simpa using n1
  show ((backTo pos (starEach (e :: es) env)).all (fun x => !x.1) && (backToKw pos (keywordEach [] env)).all (fun x => x.1.isSome) && decide ((e :: es).length + ([] : List Keyword).length + (if (backToKw pos (keywordEach [] env)).isEmpty then 0 else 1) < 30)) = true
  rw [n2]
  simp [keywordEach, backToKw]
  simp at hlen
  omega
theorem meth_tree {o : Expr} {m : Str} {es : List Expr} {apos pos : Pos} {env : PySem.Env} (hb : plainO o = true) (hline : (apos.endLine == pos.line) = true) (hf : methodCallForm (es.length + ([] : List Keyword).length) (backTo pos (starEach es env)) (backToKw pos (keywordEach [] env)) = true) :
    eval (.Call (.Attribute o m apos) es [] pos) env = (do
      let ov ← eval o env
      standAt apos.atName
      let (f, first) ← holding [ov] (getMethod ov m (do return (← importBound o env).getD true))
      callWith pos f first (backTo pos (starEach es env)) (backToKw pos (keywordEach [] env))) := by
  rw [arm_eval_Call, plainBase hb]
  have hpos : methodCallPos true o env apos pos = pure pos := by unfold methodCallPos; simp [hline]
  unfold methodCall
  rw [hf, hpos]
  rfl
theorem e_meth {CX : CXT} {k : Nat} {E : XK} {n : Nat → Nat} {m : Str} {o : Expr} {xo : Ex} {es : List Expr} {xs : Exs} {apos pos : Pos}
    (hM : ∀ ci f, G.meths ci m = some f → ∃ fa fd ps, Cls X.K (cA ci) ∧ Meth X.K (cA ci) m fa ∧ FnOk X.prog X.w X.K X.mg X.base CX k fa fd ps (spC X.K cA cl f (n f)) ∧ Binds X.K fd ps [])
    (hn : ∀ f ds d ds', cl f ds = some (d, ds') → ds.length = n f) (hr : Room k X.A) (hx : Passes CX X E) (hb : plainO o = true) (hline : (apos.endLine == pos.line) = true) (hs : es.all noStar = true) (hlen : es.length ≤ 20) (h0 : es = [] → xs = .nil)
    (ho : OkE X cA G cl L o xo) (ha : OkA X cA G cl Lb es xs) (hl : ∀ i, L i = true → Lb i = true) (root : RootOk G cl xo Lb) (hu : ∀ i ∈ (Exs.cons xo xs).pks, L i = false) : OkE X cA G cl L (.Call (.Attribute o m apos) es [] pos) (.meth m xo xs) := by
  refine ⟨fun pins s σ H Q I w => ?_⟩
  obtain ⟨ci, f, h1, h2⟩ := meth_of (E := E) (n := n) hl root hn hu w
  obtain ⟨fa, fd, ps, k1, k2, k3, k4⟩ := hM ci f h1
  cases es with
  | nil =>
    have ex := h0 rfl
    subst ex
    refine (pe_meth0 ho k1 k2 k3 hr k4 .nil hx (meth_tree hb hline rfl)).run pins s σ H Q I ?_
    obtain ⟨S, r, p, y, r', st, e, k⟩ := h2
    refine ⟨S, r, p, y, r', st, e, fun v S' H' p' F st' rr ef => ?_⟩
    obtain ⟨a, dx, fs, q1, q2, q3, S2, r2, p2, ys, r3, st2, e2, q4⟩ := k v S' H' p' F st' rr ef
    cases e2
    exact ⟨a, dx, fs, q1, q2, q3, q4 [] S2 H' p2 [] st2 .nil Eff.refl⟩
  | cons e es =>
    have hs2 := hs
    simp only [List.all_cons, Bool.and_eq_true] at hs2
    exact (pe_meth ho k1 k2 k3 hr k4 .nil hx ha (starEach_cons hs2.1) (noStars hs2.2) (meth_tree hb hline (few_ok hs hlen))).run pins s σ H Q I h2
/-! ### new instances -/
theorem new_inv {ci : Nat} {as : Exs} {x : R} (h : (Ex.new ci as).ev G cl r = some (x, r')) : ci < 1000 ∧ ∃ rs r1 ds, as.ev G cl r = some (rs, r1) ∧ gets r1 rs = some ds ∧
    ((∃ f self ds', G.init ci = some f ∧ lentOk r1 rs [] = true ∧ cl f (.nd (.ins ci []) true [] :: ds) = some (.non, self :: ds') ∧ x = .tm self ∧ r' = back r1 rs ds') ∨
      (G.init ci = none ∧ ds = [] ∧ x = .tm (.nd (.ins ci []) true []) ∧ r' = r1)) := by
  simp only [Ex.ev] at h
  split at h
  case isFalse => cases h
  rename_i hci
  refine ⟨hci, ?_⟩
  split at h
  · rename_i rs e1 h1
    split at h
    · rename_i ds h2
      refine ⟨rs, e1, ds, h1, h2, ?_⟩
      split at h
      · rename_i f h3
        split at h
        · rename_i h4
          split at h
          · rename_i self ds' h5
            cases h
            exact .inl ⟨f, self, ds', h3, h4, h5, rfl, rfl⟩
          · cases h
        · cases h
      · rename_i h3
        split at h
        · cases h
          exact .inr ⟨h3, rfl, rfl, rfl⟩
        · cases h
    · cases h
  · cases h
theorem new_of {ci f n : Nat} {as : Exs} {E : XK} (hi : G.init ci = some f) (hn : ∀ ds d ds', cl f ds = some (d, ds') → ds.length = n) (hu : ∀ i ∈ as.pks, L i = false) (h : tX X.K cA L (fun r => (Ex.new ci as).ev G cl r) s H Q) :
    tMake (cA ci) (spC X.K cA cl f n) [] E (tXs X.K cA L fun r => as.ev G cl r) s H Q := by
  obtain ⟨S, r, p, x, r', st, e, k⟩ := h
  obtain ⟨hci, rs, r1, ds, h1, h2, ⟨f', self, ds', h3, h4, h5, rfl, rfl⟩ | ⟨h3, _⟩⟩ := new_inv e
  case inr => rw [hi] at h3; cases h3
  case inl =>
  rw [hi] at h3; cases h3
  refine ⟨S, r, p, rs, r1, st, h1, fun vs S1 H1 p1 F st1 rr ef x dx hx hd hne => ?_⟩
  obtain ⟨FF, c1, c2, c3, c4⟩ := lent_reps st1 rr h2 h4
  have hh : Same H1 (upd (upd H1 dx (.own x)) x (.ins (cA ci) dx [])) := fun b o e => by rw [upd_ne (ne_of_none e hx), upd_ne (ne_of_none e hd)]; exact e
  have th := Reps.there ds c1
  have xn : x ∉ FF := fun z => by obtain ⟨o, e⟩ := th x z; rw [hx] at e; cases e
  have sx : S1 x = none := by
    cases z : S1 x with
    | none => rfl
    | some o => rw [st1.sub x o z] at hx; cases hx
  have back1 : ∀ a, upd (upd H1 dx (.own x)) x (.ins (cA ci) dx []) a = none → H1 a = none := fun a z => by
    cases q : H1 a with
    | none => rfl
    | some o => rw [hh a o q] at z; cases z
  have rx : Rep X.K cA S1 (upd (upd H1 dx (.own x)) x (.ins (cA ci) dx [])) (.nd (.ins ci []) true []) (.ref x) (x :: []) := Rep.ow (F := []) nofun upd_same ⟨hci, rfl, dx, rfl⟩ .nil
  refine ⟨S1, .nd (.ins ci []) true [] :: ds, x :: FF, .non, self :: ds', fun a o e => hh a o (st1.sub a o e), ?_, List.nodup_cons.mpr ⟨xn, c2⟩, fun a ha => ?_, h5, hn _ _ _ h5, fun v S' H' Fd F' hs sub rd rl nd hf keep cap => ?_⟩
  · simp only [List.append_nil]
    exact .cons (F := x :: []) rx (Reps.mono (fun _ _ e => e) ds c1 fun a ha => by obtain ⟨o, e⟩ := th a ha; rw [e]; exact hh a o e)
  · rcases List.mem_cons.mp ha with z | z
    · rw [z]; exact sx
    · exact c4 a z
  · cases rd
    have rl2 : Reps X.K cA S' H' (self :: ds') (.ref x :: vs) F' := by simpa using rl
    cases rl2 with
    | @cons _ _ Fx _ _ Fr rself rrest =>
    have tof : ∀ a, upd (upd H1 dx (.own x)) x (.ins (cA ci) dx []) a = none ∨ a ∈ x :: FF → H1 a = none ∨ a ∈ FF := fun a z => by
      rcases z with z | z
      · exact .inl (back1 a z)
      · rcases List.mem_cons.mp z with z | z
        · exact .inl (by rw [z]; exact hx)
        · exact .inr z
    obtain ⟨p', k1, k2, k3⟩ := call_post (ws := []) st1 rr ef (fun i hi => hu i (pks_ok h1 i hi)) c3 hs sub (by simpa using rrest) (by simpa using nd) (fun a ha => by
        obtain ⟨q1, q2⟩ := hf a (by simpa using ha)
        exact ⟨q1, tof a q2⟩) (fun a o e q => keep a o (hh a o e) fun z => by
        rcases List.mem_cons.mp z with z | z
        · rw [z, hx] at e; cases e
        · exact q z) fun a o e => (cap a o e).imp id (tof a)
    exact ⟨rfl, k _ S' H' p' Fx k1 ⟨rself, k2⟩ k3⟩
theorem e_new {CX : CXT} {k n ci f : Nat} {fa : Addr} {fd : FuncData} {ps : List Str} {E : XK} {x : Str} {pn pos : Pos} {es : List Expr} {xs : Exs} (M : Mk X.K (cA ci) fa)
    (Fo : FnOk X.prog X.w X.K X.mg X.base CX k fa fd ps (spC X.K cA cl f n)) (hr : Room (k + 1) X.A) (hg : Gl X x) (hm : X.mg x = some (.ref (cA ci))) (hb : Binds X.K fd ps []) (hx : Passes CX X E) (hi : G.init ci = some f)
    (ha : OkA X cA G cl L es xs) (h0 : es = [] → xs = .nil) (hdb : (x == ("__debug__" : Str)) = false) (hs : es.all noStar = true) (hn : ∀ ds d ds', cl f ds = some (d, ds') → ds.length = n) (hu : ∀ i ∈ xs.pks, L i = false) :
    OkE X cA G cl L (.Call (.Name x pn) es [] pos) (.new ci xs) := by
  cases es with
  | nil =>
    have ex := h0 rfl
    subst ex
    refine PE.imp (pe_make0 M Fo hr hg hm hb .nil hx hdb) fun s H Q h => ?_
    obtain ⟨S, r, p, ys, r', st, e, k⟩ := new_of (E := E) hi hn hu h
    cases e
    exact k [] S H p [] st .nil Eff.refl
  | cons e es =>
    simp only [List.all_cons, Bool.and_eq_true] at hs
    exact PE.imp (pe_make M Fo hr hg hm hb .nil hx ha hdb (starEach_cons hs.1) (noStars hs.2)) fun s H Q h => new_of hi hn hu h
/-- a class without an __init__ of its own -/
structure Mk0 (K : PySem.W.Frag) (C : Addr) : Prop where
  makes : PySem.W.makesIn K C = true
  init : PySem.W.findIn K (.ref C) "__init__" = some (some (.builtin "object.__init__"))
  kp : PySem.W.keepIn K (.ref C) = true
def tMake0 (C : Addr) : TE := fun _ H Q => ∀ x dx, H x = none → H dx = none → dx ≠ x → Q (.ref x) (upd (upd H dx (.own x)) x (.ins C dx []))
theorem pe_make00 {C : Addr} {x : Str} {pn pos : Pos} (M : Mk0 X.K C) (hg : Gl X x) (hm : X.mg x = some (.ref C)) (hdb : (x == ("__debug__" : Str)) = false) : PE X (.Call (.Name x pn) [] [] pos) (tMake0 C) := by
  refine ⟨fun pins s σ H Q I h => ?_⟩
  refine wpAny_Call_Name_kw (ld_glob I hg hm ?_ hdb)
  refine PySem.W.callWith_K0 I.kIn M.kp (wpAny_call ?_)
  have hq := h (s.heap.objs.size + 1) s.heap.objs.size (I.hok.fresh (Nat.le_succ _)) (I.hok.fresh (Nat.le_refl _)) (Nat.ne_of_lt (Nat.lt_succ_self _))
  have I2 := Inv.made (C := C) I
  have e2 : ((s.heap.push PySem.W.emptyDict).push (PySem.W.instObj C s.heap.objs.size)).get? (s.heap.objs.size + 1) = some (PySem.W.instObj C s.heap.objs.size) := by
    have := Heap.get?_push_size (s.heap.push PySem.W.emptyDict) (o := PySem.W.instObj C s.heap.objs.size) rfl
    rwa [Heap.size_push] at this
  refine make_map0 I.kIn M.makes M.init (fun self => PySem.W.Looks.of_pure (PySem.W.oi_bind self)) ?_
  have Y := PySem.W.makes_of (M := model X.prog X.w) I.kIn M.makes
  have t1 : PySem.W.Looks (model X.prog X.w) ((s.heap.push PySem.W.emptyDict).push (PySem.W.instObj C s.heap.objs.size)) (typeOf (.ref (s.heap.objs.size + 1))) (.ref C) := (PySem.W.Looks.ld e2).andThen .now
  have t2 : PySem.W.Looks (model X.prog X.w) ((s.heap.push PySem.W.emptyDict).push (PySem.W.instObj C s.heap.objs.size)) (isInstance (.ref (s.heap.objs.size + 1)) (.type "object")) true := t1.andThen (Y.top.keeps fun b o e => Heap.get?_push_of_some _ (Heap.get?_push_of_some _ e))
  refine codeAny_call_builtin PySem.W.oi_plain PySem.W.entry_oi (@PySem.W.check_slot (model X.prog X.w) _ _ _ "object.__init__" "object" "__init__" (.ref (s.heap.objs.size + 1)) [] [] _ PySem.W.oi_kind PySem.W.oi_split t2 (PySem.W.oi_args (.ref (s.heap.objs.size + 1))) ?_)
  rw [PySem.W.oi_run]
  exact wpAny_pure (And.intro rfl ⟨V.ref (s.heap.objs.size + 1), _, I2, rfl, hq⟩)
theorem e_new0 {ci : Nat} {x : Str} {pn pos : Pos} (M : Mk0 X.K (cA ci)) (hg : Gl X x) (hm : X.mg x = some (.ref (cA ci))) (hi : G.init ci = none) (hdb : (x == ("__debug__" : Str)) = false) :
    OkE X cA G cl L (.Call (.Name x pn) [] [] pos) (.new ci .nil) := by
  refine PE.imp (pe_make00 M hg hm hdb) fun s H Q ⟨S, r, p, y, r', st, e, k⟩ x dx hx hd hne => ?_
  obtain ⟨hci, rs, r1, ds, h1, h2, ⟨f', self, ds', h3, h4, h5, rfl, rfl⟩ | ⟨h3, rfl, rfl, rfl⟩⟩ := new_inv e
  · rw [hi] at h3; cases h3
  cases h1
  have hh : Same H (upd (upd H dx (.own x)) x (.ins (cA ci) dx [])) := fun b o e => by rw [upd_ne (ne_of_none e hx), upd_ne (ne_of_none e hd)]; exact e
  have sx : S x = none := by
    cases z : S x with
    | none => rfl
    | some o => rw [st.sub x o z] at hx; cases hx
  refine k _ S _ p (x :: []) (st.ext (fun _ _ e => e) hh (fun _ _ e => .inl e) fun b o e => hh b o (st.sub b o e)) ⟨Rep.ow (F := []) nofun upd_same ⟨hci, rfl, dx, rfl⟩ .nil, ⟨List.nodup_cons.mpr ⟨List.not_mem_nil, List.nodup_nil⟩, fun i b q hb => ?_, fun b hb => ?_⟩⟩
    (Eff.ext (F := x :: []) (fun _ _ e => e) hh (fun _ _ e => .inl e) fun a ha => by rw [List.mem_singleton.mp ha]; exact hx)
  · have hb : b ∈ [x] := hb
    obtain ⟨o, e⟩ := st.there q
    rw [List.mem_singleton.mp hb, hx] at e; cases e
  · have hb : b ∈ [x] := hb
    rw [List.mem_singleton.mp hb]; exact sx
/-! ### split -/
theorem reps_strs : ∀ (ys : List Str), Reps K cA S H (ys.map D.str) (ys.map V.str) []
  | [] => .nil
  | y :: ys => .cons (F := []) (Fs := []) (.str y) (reps_strs ys)
theorem e_split {z : Str} {k1} {p1 : Pos} {o : Expr} {xo : Ex} {apos pos : Pos} (hb : plainO o = true) (hline : (apos.endLine == pos.line) = true) (ho : OkE X cA G cl L o xo) :
    OkE X cA G cl L (.Call (.Attribute o "split" apos) [.Constant (.str z) k1 p1] [] pos) (.prim .split (Exs.of [xo, .con (.str z)])) := by
  refine PE.imp (pe_split ho (pe_str (x := z)) rfl (plainBase hb) hline) fun s H Q ⟨S, r, p, x, r', st, e, k⟩ => ?_
  obtain ⟨ra, r1, rb, ds, d, h1, h2, h3, h4, rfl⟩ := prim2_inv e
  simp only [Ex.ev] at h2
  cases h2
  refine ⟨S, r, p, ra, _, st, h1, fun x S1 H1 p1 F1 st1 rr1 ef1 => ?_⟩
  obtain ⟨a, b, g1, g2, rfl⟩ := gets2 h3
  cases (Option.some.inj g2)
  obtain ⟨W, rp⟩ := RRep.get st1 rr1 g1
  simp only [P.ev, Cn.d] at h4
  split at h4
  · rename_i y' e2
    cases e2
    split at h4
    · rename_i hl
      cases h4
      cases rp
      refine ⟨⟨_, rfl⟩, _, z, rfl, rfl, hl.1, by rw [sizeLine_eq]; exact hl.2, fun q hq => ?_⟩
      exact (Pr.fin st1 ef1 k).ol st1.sub (reps_strs _) hq
    · cases h4
  · cases h4
end
end TK
/-! TK, part 15: what is walked; comprehensions. Own work. -/
namespace TK
open PySem L2
section
variable {K : PySem.W.Frag} {X : Cx} {cA : Nat → Addr} {G : Sig} {cl : Cl} {L Lb Lc : LK}
variable {r r' r1 r2 r3 : Env} {p p' p1 p2 : Nat → List Addr} {S S' S1 S2 H H' H1 H2 : Hp} {F F1 F2 : List Addr} {s s' : St} {Q : VK}
/-- at each turn the i-th of ds comes -/
def ItOk (K : PySem.W.Frag) (cA : Nat → Addr) (J : L2.It) (rs : List R) (vs : List V) (gds ds : List D) : Prop :=
  ∃ Gd Y, Walk J ds.length Gd Y ∧ ∀ S H r s p F, Stt K cA S H r s p → RReps K cA S H r s p rs vs F → gets r rs = some gds → Gd H ∧ ∀ i x H', Y i H x H' → ∃ d S', ds[i]? = some d ∧ Sub S S' ∧ Same H H' ∧
    (∀ a o, S' a = some o → S a = some o ∨ H a = none) ∧ Sub S' H' ∧ Rep K cA S' H' d x []
def RootL (rs : List R) (L : LK) : Prop := ∀ q, (R.sl q ∈ rs ∨ ∃ P d, R.sn q P d ∈ rs) → L q = true
def tI (K : PySem.W.Frag) (cA : Nat → Addr) (L L2 : LK) (g : Env → Option (List D × Env)) : TI := fun s H R => ∃ S r p ds r', Stt K cA S H r s p ∧ g r = some (ds, r') ∧
  ∀ rs gds vs S' H' p' F J, gets r' rs = some gds → RootL rs L2 → Stt K cA S' H' r' s p' → RReps K cA S' H' r' s p' rs vs F → Eff L r p S H r' p' F S' H' → ItOk K cA J rs vs gds ds → R J H'
theorem PI.imp {X : Cx} {tg e : Expr} {t u : TI} (h : PI X tg e t) (f : ∀ s H R, u s H R → t s H R) : PI X tg e u := ⟨fun pins s σ H R I w => h.run pins s σ H R I (f _ _ _ w)⟩
theorem Rep.lstv {K : PySem.W.Frag} {d : D} {xs : List D} {v : V} {F : List Addr} (sub : Sub S H) (h : asSeq d = some xs) (h2 : asTup d = none) (rp : Rep K cA S H d v F) : ∃ a vs G, v = .ref a ∧ SqL K H a vs ∧ Reps K cA S H xs vs G := by
  cases rp with
  | non => cases h
  | bl _ => cases h
  | int _ => cases h
  | str _ => cases h
  | tup q rs => cases h2
  | @fz kk ys a vs n q rs z =>
    cases kk <;> simp [asSeq] at h <;> first | (simp [asTup] at h2; done) | skip
    · subst h; obtain ⟨o, e1, e2⟩ := q; cases e2; exact ⟨_, _, _, rfl, .inl (.of (sub _ _ e1)), rs⟩
    · subst h; exact ⟨_, _, _, rfl, SqL.mono sub q, rs⟩
  | @ow kk ys a vs o G2 n he q rs =>
    cases kk <;> simp [asSeq] at h <;> first | (simp [asTup] at h2; done) | skip
    · subst h; cases q; exact ⟨_, _, _, rfl, .inl (.of he), rs⟩
    · exact absurd q (by simp [HoIs])
theorem fzs_item {xs : List D} {vs : List V} (rs : Reps K cA S H xs vs F) (hf : fzs xs = true) {i : Nat} {x : V} (e : vs[i]? = some x) : ∃ d, xs[i]? = some d ∧ Rep K cA S H d x [] := by
  have h0 := Reps.fzmono (S' := S) (H' := H) (fun _ _ e => e) rs hf
  have hl := Reps.length rs
  have hi : i < xs.length := by rw [hl]; exact (List.getElem?_eq_some_iff.mp e).1
  exact ⟨xs[i], by simp [hi], h0.at0 (by simp [hi]) e⟩
theorem itl_ok {a : Addr} {d : D} {xs : List D} {ra : R} (h : asSeq d = some xs) (h2 : asTup d = none) (hf : fzs xs = true) : ItOk K cA (Itl K a) [ra] [.ref a] [d] xs := by
  refine ⟨fun H => ∃ vs, SqL K H a vs ∧ vs.length = xs.length, fun i H x H' => H' = H ∧ ∀ vs, SqL K H a vs → vs[i]? = some x, ⟨fun i H hi ⟨vs, q, l⟩ => ⟨vs, vs[i]'(by omega), q, by simp⟩, fun H ⟨vs, q, l⟩ => ⟨vs, q, by omega⟩, fun i H x H' _ _ y => y⟩, fun S H r s p F st rr hg => ?_⟩
  obtain ⟨d', hd, e⟩ := gets1 hg
  cases e
  have g1 : ∃ A, RRep K cA S H r s p ra (.ref a) A := by cases rr with | cons g1 _ _ => exact ⟨_, g1⟩
  obtain ⟨A, g1⟩ := g1
  obtain ⟨W, rp⟩ := RRep.get st g1 hd
  obtain ⟨a', vs, G', e, q, rs⟩ := Rep.lstv st.sub h h2 rp
  cases e
  refine ⟨⟨vs, q, (Reps.length rs).symm⟩, fun i x H' ⟨e, y⟩ => ?_⟩
  subst e
  obtain ⟨d1, h3, h4⟩ := fzs_item rs hf (y vs q)
  exact ⟨d1, S, h3, fun _ _ e => e, fun _ _ e => e, fun _ _ e => .inl e, st.sub, h4⟩
theorem itt_ok {a : Addr} {d : D} {xs : List D} {ra : R} (h2 : asTup d = some xs) (hf : fzs xs = true) : ItOk K cA (Itt K a) [ra] [.ref a] [d] xs := by
  refine ⟨fun H => ∃ vs, SqT K H a vs ∧ vs.length = xs.length, fun i H x H' => H' = H ∧ ∀ vs, SqT K H a vs → vs[i]? = some x, ⟨fun i H hi ⟨vs, q, l⟩ => ⟨vs, vs[i]'(by omega), q, by simp⟩, fun H ⟨vs, q, l⟩ => ⟨vs, q, by omega⟩, fun i H x H' _ _ y => y⟩, fun S H r s p F st rr hg => ?_⟩
  obtain ⟨d', hd, e⟩ := gets1 hg
  cases e
  have g1 : ∃ A, RRep K cA S H r s p ra (.ref a) A := by cases rr with | cons g1 _ _ => exact ⟨_, g1⟩
  obtain ⟨A, g1⟩ := g1
  obtain ⟨W, rp⟩ := RRep.get st g1 hd
  obtain ⟨a', vs, G', e, q, rs⟩ : ∃ a' vs G, V.ref a = .ref a' ∧ SqT K H a' vs ∧ Reps K cA S H xs vs G := by
    cases rp with
    | tup q rs => cases h2; exact ⟨_, _, _, rfl, .inl (.inl (st.sub _ _ q)), rs⟩
    | @fz kk ys _ vs n q rs z =>
      cases kk <;> simp [asTup] at h2
      · exact absurd rfl n
      · subst h2; exact ⟨_, _, _, rfl, SqT.mono st.sub q, rs⟩
    | @ow kk ys _ vs o G2 n he q rs =>
      cases kk <;> simp [asTup] at h2
      · exact absurd rfl n
      · exact absurd q (by simp [HoIs])
  cases e
  refine ⟨⟨vs, q, (Reps.length rs).symm⟩, fun i x H' ⟨e, y⟩ => ?_⟩
  subst e
  obtain ⟨d1, h3, h4⟩ := fzs_item rs hf (y vs q)
  exact ⟨d1, S, h3, fun _ _ e => e, fun _ _ e => e, fun _ _ e => .inl e, st.sub, h4⟩
theorem its_ok {z : Str} {rs : List R} {vs : List V} {gds : List D} : ItOk K cA (Its z) rs vs gds (z.cps.toList.map fun c => .str ⟨#[c]⟩) := by
  refine ⟨fun _ => True, fun i H v H' => H' = H ∧ ∃ c, z.cps[i]? = some c ∧ v = .str ⟨#[c]⟩, ?_, fun S H r s p F st rr hg => ⟨trivial, fun i x H' ⟨e, c, h1, h2⟩ => ?_⟩⟩
  · have := walk_str (z := z)
    simpa using this
  · subst e; subst h2
    exact ⟨.str ⟨#[c]⟩, S, by simp [h1], fun _ _ e => e, fun _ _ e => e, fun _ _ e => .inl e, st.sub, .str _⟩
theorem itr_ok {lo : Int} {n : Nat} {rs : List R} {vs : List V} {gds : List D} : ItOk K cA (Itr lo n) rs vs gds ((List.range n).map fun (k : Nat) => D.int (lo + (k : Int))) := by
  refine ⟨fun H => True, fun i H x H' => i < n ∧ H' = H ∧ x = .int (lo + i), ?_, fun S H r s p F st rr hg => ⟨trivial, fun i x H' ⟨hi, e, h2⟩ => ?_⟩⟩
  · rw [List.length_map, List.length_range]
    exact ⟨fun _ _ hi _ => hi, fun _ _ => Nat.le_refl _, fun i _ _ _ hi _ y => ⟨hi, y⟩⟩
  · subst e; subst h2
    exact ⟨.int (lo + i), S, by simp [hi], fun _ _ e => e, fun _ _ e => e, fun _ _ e => .inl e, st.sub, .int _⟩
/-- a thing in the hand is locked -/
theorem frz_tmp {S0 H0 : Hp} {r0 : Env} {p0 : Nat → List Addr} {d : D} {v : V} (st : Stt K cA S H r s p) (rp : Rep K cA S H d v F) (t : Tmp S p F) (ef : Eff L r0 p0 S0 H0 r p F S H) :
    Stt K cA (frzS S H F) H r s p ∧ Rep K cA (frzS S H F) H d.fr v [] ∧ Eff L r0 p0 S0 H0 r p [] (frzS S H F) H := by
  have hs : Sub S (frzS S H F) := fun a o e => by
    unfold frzS
    split
    · exact st.sub a o e
    · exact e
  have hsub : Sub (frzS S H F) H := fun a o e => by
    unfold frzS at e
    split at e
    · exact e
    · exact st.sub a o e
  refine ⟨⟨hsub, st.len, fun j e he => ?_, st.emp, st.nd, st.dj, fun j a ha => ?_⟩, Rep.frz hs d rp fun a ha => by unfold frzS; rw [if_pos ha], ⟨fun a o e => hs a o (ef.sub a o e), ef.keep, fun a o e => ?_, ef.same, ef.new, fun a ha => absurd ha (by simp), ef.len⟩⟩
  · obtain ⟨w, hw, rq⟩ := st.rep j e he
    exact ⟨w, hw, Rep.mono hs e rq fun a _ => rfl⟩
  · unfold frzS
    rw [if_neg fun z => t.dj j a ha z]
    exact st.own j a ha
  · unfold frzS at e
    split at e
    · rename_i z; exact .inr (ef.tmp a z)
    · exact ef.cap a o e
theorem i_seq {tg e : Expr} {x : Ex} (h : OkE X cA G cl L e x) (hr : ∀ i, rootX x = some i → Lb i = true) : PI X tg e (tI X.K cA L Lb fun r => (It.seq x).ev G cl r) := by
  have h3 : PI X tg e (fun s H R => iList X.K (tX X.K cA L fun r => x.ev G cl r) s H R ∨ iTup X.K (tX X.K cA L fun r => x.ev G cl r) s H R ∨ iStr (tX X.K cA L fun r => x.ev G cl r) s H R) := ⟨fun pins s σ H R I w => by
    rcases w with w | w | w
    · exact (pi_list h).run pins s σ H R I w
    · exact (pi_tup h).run pins s σ H R I w
    · exact (pi_str h).run pins s σ H R I w⟩
  refine PI.imp h3 fun s H R ⟨S, r, p, ds, r', st, e, k⟩ => ?_
  simp only [It.ev] at e
  split at e
  · rename_i ra r1 h1
    split at e
    · rename_i d h2
      obtain ⟨ys, h4, e5⟩ := Option.map_eq_some_iff.mp e
      cases e5
      cases h40 : items d with
      | none =>
        simp only [itemsT, h40] at h4
        cases ra with
        | sl _ => cases h4
        | sn _ _ _ => cases h4
        | tm d' =>
          cases h2
          have hroot : RootL [.tm d.fr] Lb := fun q z => by
            rcases z with z | ⟨P, d', z⟩ <;> (have := List.mem_singleton.mp z; cases this)
          have one : ∀ {v : V} {S' H' : Hp} {p' : Nat → List Addr}, RRep X.K cA S' H' r' s p' (.tm d.fr) v [] → RReps X.K cA S' H' r' s p' [.tm d.fr] [v] ([] ++ []) := fun rr => .cons rr .nil fun a _ z => absurd z (by simp)
          obtain ⟨kk, o, zs, rfl⟩ : ∃ kk o zs, d = .nd kk o zs := by
            cases d with
            | nd kk o zs => exact ⟨kk, o, zs, rfl⟩
            | _ => rw [D.fr] at h4; rw [h40] at h4; cases h4
          have hi : asSeq (D.nd kk o zs).fr = some ds ∧ fzs ds = true := by
            have z : D.fr (.nd kk o zs) = .nd kk false (D.fr.frs zs) := by rw [D.fr]
            rw [z] at h4 ⊢
            unfold items at h4
            simp only at h4
            split at h4
            · rename_i xs hx
              split at h4
              · rename_i hf; cases h4; exact ⟨hx, hf⟩
              · cases h4
            · cases h4
          obtain ⟨hx, hf⟩ := hi
          cases ht : asTup (D.nd kk o zs).fr with
          | none =>
            refine .inl ⟨S, r, p, _, r', st, h1, fun v S' H' p' F st' rr ef => ?_⟩
            obtain ⟨rp, tm⟩ := rr
            obtain ⟨k1, k2, k3⟩ := frz_tmp st' rp tm ef
            obtain ⟨a, vs, G', rfl, q, rs⟩ := Rep.lstv k1.sub hx ht k2
            exact ⟨a, rfl, ⟨vs, q⟩, k [_] [_] _ _ H' p' _ _ rfl hroot k1 (one ⟨k2, Tmp.nil⟩) k3 (itl_ok hx ht hf)⟩
          | some ys =>
            have ey : ys = ds := by
              have z : D.fr (.nd kk o zs) = .nd kk false (D.fr.frs zs) := by rw [D.fr]
              rw [z] at ht hx
              cases kk <;> simp [asTup] at ht <;> simp [asSeq] at hx <;> exact ht.symm.trans hx
            subst ey
            refine .inr (.inl ⟨S, r, p, _, r', st, h1, fun v S' H' p' F st' rr ef => ?_⟩)
            obtain ⟨rp, tm⟩ := rr
            obtain ⟨k1, k2, k3⟩ := frz_tmp st' rp tm ef
            obtain ⟨a, vs, G', rfl, q, rs⟩ := Rep.tupv (X := X) k1.sub ht k2
            exact ⟨a, rfl, ⟨vs, q⟩, k [_] [_] _ _ H' p' _ _ rfl hroot k1 (one ⟨k2, Tmp.nil⟩) k3 (itt_ok ht hf)⟩
      | some ys0 =>
      have h41 : items d = some ds := by
        simp only [itemsT, h40] at h4
        rw [h40]; exact h4
      clear h40 h4
      have h4 := h41
      clear h41
      have hroot : RootL [ra] Lb := fun q z => by
        rcases z with z | ⟨P, d', z⟩
        · have : ra = .sl q := (List.mem_singleton.mp z).symm
          exact hr q (by rw [(rootX_ok x r ra _ h1).1 q this]; rfl)
        · have : ra = .sn q P d' := (List.mem_singleton.mp z).symm
          exact hr q ((rootX_ok x r ra _ h1).2 q P d' this)
      have hg : gets r' [ra] = some [d] := by simp [gets, h2]
      have one : ∀ {v : V} {S' H' : Hp} {p' : Nat → List Addr} {F : List Addr}, RRep X.K cA S' H' r' s p' ra v F → RReps X.K cA S' H' r' s p' [ra] [v] (F ++ []) := fun rr => .cons rr .nil fun a _ z => absurd z (by simp)
      by_cases hs : ∃ z, d = .str z
      · obtain ⟨z, rfl⟩ := hs
        cases h4
        refine .inr (.inr ⟨S, r, p, ra, r', st, h1, fun v S' H' p' F st' rr ef => ?_⟩)
        obtain ⟨W, rp⟩ := RRep.get st' rr h2
        cases rp
        exact ⟨z, rfl, k [ra] [.str z] _ S' H' p' _ _ hg hroot st' (one rr) (by simpa using ef) its_ok⟩
      · have hi : ∃ xs, asSeq d = some xs ∧ fzs xs = true ∧ ds = xs := by
          unfold items at h4
          split at h4
          · rename_i z; exact absurd ⟨z, rfl⟩ hs
          · split at h4
            · rename_i xs hx
              split at h4
              · rename_i hf; cases h4; exact ⟨_, hx, hf, rfl⟩
              · cases h4
            · cases h4
        obtain ⟨xs, hx, hf, rfl⟩ := hi
        cases ht : asTup d with
        | none =>
          refine .inl ⟨S, r, p, ra, r', st, h1, fun v S' H' p' F st' rr ef => ?_⟩
          obtain ⟨W, rp⟩ := RRep.get st' rr h2
          obtain ⟨a, vs, G', rfl, q, rs⟩ := Rep.lstv st'.sub hx ht rp
          exact ⟨a, rfl, ⟨vs, q⟩, k [ra] [d] _ S' H' p' _ _ hg hroot st' (one rr) (by simpa using ef) (itl_ok hx ht hf)⟩
        | some ys =>
          have ey : ys = ds := by
            cases d <;> simp [asTup] at ht
            rename_i kk o zs
            cases kk <;> simp [asTup] at ht <;> simp [asSeq] at hx <;> exact ht.symm.trans hx
          subst ey
          refine .inr (.inl ⟨S, r, p, ra, r', st, h1, fun v S' H' p' F st' rr ef => ?_⟩)
          obtain ⟨W, rp⟩ := RRep.get st' rr h2
          obtain ⟨a, vs, G', rfl, q, rs⟩ := Rep.tupv (X := X) st'.sub ht rp
          exact ⟨a, rfl, ⟨vs, q⟩, k [ra] [d] _ S' H' p' _ _ hg hroot st' (one rr) (by simpa using ef) (itt_ok ht hf)⟩
    · cases e
  · cases e
theorem nmbr_get : ∀ (xs : List D) (n j : Nat), (nmbr n xs)[j]? = (xs[j]?).map fun x => D.tup [.int ((n + j : Nat) : Int), x]
  | [], n, j => by simp [nmbr]
  | x :: xs, n, 0 => by simp [nmbr]
  | x :: xs, n, j + 1 => by
    have := nmbr_get xs (n + 1) j
    simp only [nmbr, List.getElem?_cons_succ, this]
    congr 1
    funext y
    rw [show n + 1 + j = n + (j + 1) by omega]
theorem nmbr_len : ∀ (xs : List D) (n : Nat), (nmbr n xs).length = xs.length
  | [], _ => rfl
  | x :: xs, n => by simp [nmbr, nmbr_len xs]
/-- a new pair -/
theorem pair_ok {xs : List D} {i : Nat} {T : Addr} {x : V} {vs : List V} (sub : Sub S H) (rs : Reps K cA S H xs vs F) (hf : fzs xs = true) (hx : vs[i]? = some x) (hT : H T = none) :
    ∃ d S', (nmbr 0 xs)[i]? = some d ∧ Sub S S' ∧ Same H (upd H T (.tup [.int (i : Nat), x])) ∧ (∀ a o, S' a = some o → S a = some o ∨ H a = none) ∧ Sub S' (upd H T (.tup [.int (i : Nat), x])) ∧ Rep K cA S' (upd H T (.tup [.int (i : Nat), x])) d (.ref T) [] := by
  obtain ⟨d1, h3, h4⟩ := fzs_item rs hf hx
  have sn : S T = none := by
    cases z : S T with
    | none => rfl
    | some o => rw [sub T o z] at hT; cases hT
  have hs : Sub S (upd S T (.tup [.int (i : Nat), x])) := fun b o e => by rw [upd_ne (ne_of_none e sn)]; exact e
  have hh : Same H (upd H T (.tup [.int (i : Nat), x])) := fun b o e => by rw [upd_ne (ne_of_none e hT)]; exact e
  refine ⟨.tup [.int ((0 + i : Nat) : Int), d1], upd S T (.tup [.int (i : Nat), x]), by rw [nmbr_get, h3]; rfl, hs, hh, fun b o e => ?_, fun b o e => ?_, ?_⟩
  · by_cases z : b = T
    · subst z; exact .inr hT
    · rw [upd_ne z] at e; exact .inl e
  · by_cases z : b = T
    · subst z; rw [upd_same] at e ⊢; exact e
    · rw [upd_ne z] at e ⊢; exact sub b o e
  · rw [Nat.zero_add]
    exact .tup upd_same (.cons (F := []) (Fs := []) (.int _) (.cons (F := []) (Fs := []) (Rep.mono hs d1 h4 fun a ha => absurd ha (by simp)) .nil))
theorem itel_ok {a : Addr} {d : D} {xs : List D} {ra : R} (h : asSeq d = some xs) (h2 : asTup d = none) (hf : fzs xs = true) : ItOk K cA (Ite K a) [ra] [.ref a] [d] (nmbr 0 xs) := by
  refine ⟨fun H => ∃ vs, SqL K H a vs ∧ vs.length = xs.length, fun i H v H' => ∃ T x, v = .ref T ∧ H T = none ∧ H' = upd H T (.tup [.int (i : Nat), x]) ∧ ∀ vs, SqL K H a vs → vs[i]? = some x, ⟨fun i H hi ⟨vs, q, l⟩ => ⟨vs, vs[i]'(by rw [nmbr_len] at hi; omega), q, by simp⟩, fun H ⟨vs, q, l⟩ => ⟨vs, q, by rw [nmbr_len]; omega⟩, fun i H x H' _ _ y => y⟩, fun S H r s p F st rr hg => ?_⟩
  obtain ⟨d', hd, e⟩ := gets1 hg
  cases e
  have g1 : ∃ A, RRep K cA S H r s p ra (.ref a) A := by cases rr with | cons g1 _ _ => exact ⟨_, g1⟩
  obtain ⟨A, g1⟩ := g1
  obtain ⟨W, rp⟩ := RRep.get st g1 hd
  obtain ⟨a', vs, G', e, q, rs⟩ := Rep.lstv st.sub h h2 rp
  cases e
  refine ⟨⟨vs, q, (Reps.length rs).symm⟩, fun i v H' ⟨T, x, e1, hT, e2, y⟩ => ?_⟩
  subst e1; subst e2
  exact pair_ok st.sub rs hf (y vs q) hT
theorem itet_ok {a : Addr} {d : D} {xs : List D} {ra : R} (h2 : asTup d = some xs) (hf : fzs xs = true) : ItOk K cA (Tku.Itet K a) [ra] [.ref a] [d] (nmbr 0 xs) := by
  refine ⟨fun H => ∃ vs, SqT K H a vs ∧ vs.length = xs.length, fun i H v H' => ∃ T x, v = .ref T ∧ H T = none ∧ H' = upd H T (.tup [.int (i : Nat), x]) ∧ ∀ vs, SqT K H a vs → vs[i]? = some x, ⟨fun i H hi ⟨vs, q, l⟩ => ⟨vs, vs[i]'(by rw [nmbr_len] at hi; omega), q, by simp⟩, fun H ⟨vs, q, l⟩ => ⟨vs, q, by rw [nmbr_len]; omega⟩, fun i H x H' _ _ y => y⟩, fun S H r s p F st rr hg => ?_⟩
  obtain ⟨d', hd, e⟩ := gets1 hg
  cases e
  have g1 : ∃ A, RRep K cA S H r s p ra (.ref a) A := by cases rr with | cons g1 _ _ => exact ⟨_, g1⟩
  obtain ⟨A, g1⟩ := g1
  obtain ⟨W, rp⟩ := RRep.get st g1 hd
  obtain ⟨a', vs, G', e, q, rs⟩ : ∃ a' vs G, V.ref a = .ref a' ∧ SqT K H a' vs ∧ Reps K cA S H xs vs G := by
    cases rp with
    | tup q rs => cases h2; exact ⟨_, _, _, rfl, .inl (.inl (st.sub _ _ q)), rs⟩
    | @fz kk ys _ vs n q rs z =>
      cases kk <;> simp [asTup] at h2
      · exact absurd rfl n
      · subst h2; exact ⟨_, _, _, rfl, SqT.mono st.sub q, rs⟩
    | @ow kk ys _ vs o G2 n he q rs =>
      cases kk <;> simp [asTup] at h2
      · exact absurd rfl n
      · exact absurd q (by simp [HoIs])
  cases e
  refine ⟨⟨vs, q, (Reps.length rs).symm⟩, fun i v H' ⟨T, x, e1, hT, e2, y⟩ => ?_⟩
  subst e1; subst e2
  exact pair_ok st.sub rs hf (y vs q) hT
theorem items_seq {d : D} {xs : List D} (hs : ∀ z, d ≠ .str z) (h : items d = some xs) : asSeq d = some xs ∧ fzs xs = true := by
  unfold items at h
  split at h
  · exact absurd rfl (hs _)
  · split at h
    · rename_i ys hx
      split at h
      · rename_i hf; cases h; exact ⟨hx, hf⟩
      · cases h
    · cases h
theorem asTup_seq {d : D} {zs : List D} (h : asTup d = some zs) : asSeq d = some zs := by
  cases d with
  | nd kk o ws => cases kk <;> first | exact h | cases h
  | _ => cases h
theorem i_enum {e : Expr} {x : Ex} {elts : List Expr} {kk : Nat} {tpos pn pos : Pos} {f : Str} (hfn : f = "enumerate") (hg : Gl X f) (hm : X.mg f = none) (hs : noStar e = true) (h : OkE X cA G cl L e x) (hr : ∀ i, rootX x = some i → Lb i = true) :
    PI X (.Tuple elts kk tpos) (.Call (.Name f pn) [e] [] pos) (tI X.K cA L Lb fun r => (It.enum x).ev G cl r) := by
  subst hfn
  refine PI.imp (Tku.pi_enumT hg hm (pa_cons h pa_nil (starEach_cons hs)) (starEach_cons hs)) fun s H Rz ⟨S, r, p, ds, r', st, e, k⟩ => ?_
  simp only [It.ev] at e
  split at e
  case h_2 => cases e
  rename_i ra r1 h1
  split at e
  case h_2 => cases e
  rename_i d h2
  obtain ⟨ys, h4, e5⟩ := Option.map_eq_some_iff.mp e
  cases e5
  have hns : ∀ z, d ≠ .str z := fun z e => by subst e; cases h4
  obtain ⟨xs, h40, rfl⟩ : ∃ xs, itemsT ra d = some xs ∧ ds = nmbr 0 xs := by
    unfold enumT at h4
    split at h4
    · cases h4
    · obtain ⟨xs, a, b⟩ := Option.map_eq_some_iff.mp h4
      exact ⟨xs, a, b.symm⟩
  refine ⟨S, r, p, ra, r', st, h1, fun v S' H' p' F st' rr ef => ?_⟩
  have fin : ∀ {ra2 : R} {d2 : D} {S2 : Hp} {F2 : List Addr}, asSeq d2 = some xs → fzs xs = true → RootL [ra2] Lb → gets r' [ra2] = some [d2] → Stt X.K cA S2 H' r' s p' → RRep X.K cA S2 H' r' s p' ra2 v F2 → Eff L r p S H r' p' F2 S2 H' → (∃ W, Rep X.K cA S2 H' d2 v W) →
      ∃ a, [v] = [V.ref a] ∧ ((∃ xs, SqL X.K H' a xs) ∧ Rz (Ite X.K a) H' ∨ (∃ xs, SqT X.K H' a xs) ∧ Rz (Tku.Itet X.K a) H') := fun {ra2 d2 S2 F2} hx hf hroot hg2 st2 rr2 ef2 ⟨W, rp⟩ => by
    have one : RReps X.K cA S2 H' r' s p' [ra2] [v] (F2 ++ []) := .cons rr2 .nil fun a _ z => absurd z (by simp)
    cases ht : asTup d2 with
    | none =>
      obtain ⟨a, vs, G', rfl, q, rs⟩ := Rep.lstv st2.sub hx ht rp
      exact ⟨a, rfl, .inl ⟨⟨vs, q⟩, k [ra2] [d2] _ S2 H' p' _ _ hg2 hroot st2 one (by simpa using ef2) (itel_ok hx ht hf)⟩⟩
    | some zs =>
      have ez : zs = xs := Option.some.inj ((asTup_seq ht).symm.trans hx)
      subst ez
      obtain ⟨a, vs, G', rfl, q, rs⟩ := Rep.tupv (X := X) st2.sub ht rp
      exact ⟨a, rfl, .inr ⟨⟨vs, q⟩, k [ra2] [d2] _ S2 H' p' _ _ hg2 hroot st2 one (by simpa using ef2) (itet_ok ht hf)⟩⟩
  cases h41 : items d with
  | some ys0 =>
    have e6 : ys0 = xs := by
      simp only [itemsT, h41] at h40
      exact Option.some.inj h40
    subst e6
    obtain ⟨hx, hf⟩ := items_seq hns h41
    have hroot : RootL [ra] Lb := fun q z => by
      rcases z with z | ⟨P, d', z⟩
      · have : ra = .sl q := (List.mem_singleton.mp z).symm
        exact hr q (by rw [(rootX_ok x r ra _ h1).1 q this]; rfl)
      · have : ra = .sn q P d' := (List.mem_singleton.mp z).symm
        exact hr q ((rootX_ok x r ra _ h1).2 q P d' this)
    exact fin hx hf hroot (by simp [gets, h2]) st' rr ef (RRep.get st' rr h2)
  | none =>
    simp only [itemsT, h41] at h40
    cases ra with
    | sl _ => cases h40
    | sn _ _ _ => cases h40
    | tm d' =>
      cases h2
      have hns2 : ∀ z, d.fr ≠ .str z := fun z e => by
        cases d <;> simp [D.fr] at e
        exact hns _ rfl
      obtain ⟨hx, hf⟩ := items_seq hns2 h40
      have hroot : RootL [.tm d.fr] Lb := fun q z => by
        rcases z with z | ⟨P, d', z⟩ <;> (have := List.mem_singleton.mp z; cases this)
      obtain ⟨rp, tm⟩ := rr
      obtain ⟨k1, k2, k3⟩ := frz_tmp st' rp tm ef
      exact fin hx hf hroot rfl k1 ⟨k2, Tmp.nil⟩ k3 ⟨_, k2⟩
theorem rep_int {i : Int} {v : V} (h : Rep K cA S H (.int i) v F) : v = .int i := by cases h; rfl
theorem i_rng1 {tg a : Expr} {x : Ex} {f : Str} {pn pos : Pos} (hf : f = "range") (hg : Gl X f) (hm : X.mg f = none) (hs : noStar a = true) (h : OkE X cA G cl L a x) : PI X tg (.Call (.Name f pn) [a] [] pos) (tI X.K cA L Lb fun r => (It.rng1 x).ev G cl r) := by
  subst hf
  refine PI.imp (pi_range1 hg hm (pa_cons h pa_nil (starEach_cons hs)) (starEach_cons hs)) fun s H R ⟨S, r, p, ds, r', st, e, k⟩ => ?_
  simp only [It.ev] at e
  split at e
  · rename_i ra r1 h1
    split at e
    · rename_i j h2
      obtain ⟨ys, h4, e5⟩ := Option.map_eq_some_iff.mp e
      cases e5
      unfold rngL at h4
      split at h4
      · rename_i hb
        cases h4
        refine ⟨S, r, p, ra, r', st, h1, fun v S' H' p' F st' rr ef => ?_⟩
        obtain ⟨W, rp⟩ := RRep.get st' rr h2
        cases rep_int rp
        refine ⟨j, rfl, hb.2.2.1, hb.2.2.2, k [] [] [] S' H' p' [] _ rfl (by intro q z; simp at z) st' .nil (ef.drop fun a ha => absurd ha (by simp)) ?_⟩
        have := itr_ok (K := X.K) (cA := cA) (lo := 0) (n := j.toNat) (rs := []) (vs := []) (gds := [])
        simpa using this
      · cases h4
    · cases e
  · cases e
theorem i_rng2 {tg a b : Expr} {x y : Ex} {f : Str} {pn pos : Pos} (hf : f = "range") (hg : Gl X f) (hm : X.mg f = none) (hs : noStar a = true) (hs2 : noStar b = true) (ha : OkE X cA G cl L a x) (hb : OkE X cA G cl Lc b y) (hl : ∀ i, L i = true → Lc i = true) (root : RootOk G cl x Lc) :
    PI X tg (.Call (.Name f pn) [a, b] [] pos) (tI X.K cA L Lb fun r => (It.rng2 x y).ev G cl r) := by
  subst hf
  have es2 : starEach [b] X.env = [(false, eval b X.env)] := starEach_cons hs2
  refine PI.imp (pi_range2 hg hm (pa_cons ha (pa_cons hb pa_nil es2) (starEach_cons hs)) (by rw [starEach_cons hs, es2]) es2) fun s H R ⟨S, r, p, ds, r', st, e, k⟩ => ?_
  simp only [It.ev] at e
  split at e
  · rename_i ra r1 h1
    split at e
    · rename_i rb r2 h2
      split at e
      · rename_i i j h3 h4
        obtain ⟨ys, h5, e5⟩ := Option.map_eq_some_iff.mp e
        cases e5
        unfold rngL at h5
        split at h5
        · rename_i hbd
          cases h5
          refine seq2 (Q := fun v w H2 => ∃ i j : Int, [v, w] = [.int i, .int j] ∧ (-(2 ^ 62) ≤ i ∧ i < 2 ^ 62 ∧ -(2 ^ 62) ≤ j ∧ j < 2 ^ 62) ∧ R (Itr i (j - i).toNat) H2) st h1 h2 (fun q P d e => root _ _ q P d (by rw [h1, e])) hl fun v w S2 H2 p2 F st2 rr ef => ?_
          obtain ⟨A, B, c1, c2⟩ := RReps.two rr
          obtain ⟨W, rp⟩ := RRep.get st2 c1 h3
          obtain ⟨W2, rp2⟩ := RRep.get st2 c2 h4
          cases rep_int rp
          cases rep_int rp2
          exact ⟨i, j, rfl, hbd, k [] [] [] S2 H2 p2 [] _ rfl (by intro q z; simp at z) st2 .nil (ef.drop fun a ha => absurd ha (by simp)) itr_ok⟩
        · cases h5
      · cases e
    · cases e
  · cases e
end
end TK
/-! TK, part 16: comprehensions. Own work. -/
namespace TK
open PySem L2
section
variable {K : PySem.W.Frag} {X : Cx} {cA : Nat → Addr} {G : Sig} {cl : Cl} {L Lb Lc : LK}
variable {r r' r1 r2 r3 : Env} {p p' p1 p2 : Nat → List Addr} {S S' S1 S2 H H' H1 H2 : Hp} {F F1 F2 : List Addr} {s s' : St} {Q : VK}
/-- a turn -/
def lcF (G : Sig) (cl : Cl) (tg : Tg) (cd el : Ex) (x : D) (e : Env) : Option (Option D × Env) := match bindTg e x tg with
  | some e => match bool1 (cd.ev G cl e) with
    | some (true, e) => match tm1 (el.ev G cl e) with
      | some (d, e) => some (some d, wipeE e tg)
      | none => none
    | some (false, e) => some (none, wipeE e tg)
    | none => none
  | none => none
theorem lc_inv {tg : Tg} {it : It} {cd el : Ex} {x : R} (h : (Ex.lc tg it cd el).ev G cl r = some (x, r')) : ∃ xs r1 ds, it.ev G cl r = some (xs, r1) ∧ lcL (lcF G cl tg cd el) xs [] (wipeE r1 tg) = some (ds, r') ∧ x = .tm (.ol ds) := by
  simp only [Ex.ev] at h
  split at h
  · rename_i xs r1 h1
    split at h
    · rename_i ds r2 h2
      cases h
      exact ⟨xs, r1, ds, h1, h2, rfl⟩
    · cases h
  · cases h
theorem lcF_inv {tg : Tg} {cd el : Ex} {d : D} {od : Option D} (h : lcF G cl tg cd el d r = some (od, r')) : ∃ r1 b r2, bindTg r d tg = some r1 ∧ bool1 (cd.ev G cl r1) = some (b, r2) ∧
    ((b = false ∧ od = none ∧ r' = wipeE r2 tg) ∨ (b = true ∧ ∃ d' r3, el.ev G cl r2 = some (.tm d', r3) ∧ od = some d' ∧ r' = wipeE r3 tg)) := by
  unfold lcF at h
  split at h
  · rename_i r1 h1
    split at h
    · rename_i r2 h2
      split at h
      · rename_i d' r3 h3
        cases h
        refine ⟨r1, true, r2, h1, h2, .inr ⟨rfl, d', r3, ?_, rfl, rfl⟩⟩
        unfold tm1 at h3
        split at h3
        · cases h3; assumption
        · cases h3
      · cases h
    · rename_i r2 h2
      cases h
      exact ⟨r1, false, r2, h1, h2, .inl ⟨rfl, rfl, rfl⟩⟩
    · cases h
  · cases h
theorem wipe_get {vs : List Nat} {σ : St} {j : Nat} (h : j ∉ vs) : (wipe σ vs)[j]? = σ[j]? := by
  induction vs with
  | nil => rfl
  | cons v vs ih =>
    unfold wipe
    rw [List.getElem?_set_ne (fun z => h (by rw [z]; exact List.mem_cons_self)), ih fun z => h (List.mem_cons_of_mem _ z)]
theorem wipe_in {vs : List Nat} {σ : St} {j : Nat} (h : j ∈ vs) (hl : j < σ.length) : (wipe σ vs)[j]? = some none := by
  induction vs with
  | nil => cases h
  | cons v vs ih =>
    unfold wipe
    by_cases z : j = v
    · subst z
      rw [List.getElem?_set_self (by rw [wipe_length]; exact hl)]
    · rw [List.getElem?_set_ne (fun q => z q.symm)]
      exact ih ((List.mem_cons.mp h).elim (fun q => (z q).elim) id)
theorem wipe_eq {vs : List Nat} {σ σ' : St} (hl : σ'.length = σ.length) (h : ∀ j, j ∉ vs → σ'[j]? = (wipe σ vs)[j]?) : wipe σ' vs = wipe σ vs := by
  refine List.ext_getElem? fun j => ?_
  by_cases z : j ∈ vs
  · by_cases hj : j < σ.length
    · rw [wipe_in z hj, wipe_in z (by rw [hl]; exact hj)]
    · rw [List.getElem?_eq_none (by rw [wipe_length, hl]; omega), List.getElem?_eq_none (by rw [wipe_length]; omega)]
  · rw [wipe_get z, h j z]
theorem Stt.sig (st : Stt K cA S H r s p) (hl : s'.length = s.length) (h : ∀ (i : Nat) (v : V), s[i]? = some (some v) → s'[i]? = some (some v)) : Stt K cA S H r s' p :=
  ⟨st.sub, by rw [hl]; exact st.len, fun i d e => let ⟨v, h1, rp⟩ := st.rep i d e; ⟨v, h i v h1, rp⟩, st.emp, st.nd, st.dj, st.own⟩
/-- slots other than the roots move -/
theorem RReps.move {xs : List R} {vs : List V} (rr : RReps K cA S H r s p xs vs F) (h : ∀ q, (R.sl q ∈ xs ∨ ∃ P d, R.sn q P d ∈ xs) → gt r' q = gt r q ∧ s'[q]? = s[q]?) (hp : ∀ j, ∀ a ∈ p' j, a ∈ p j) : RReps K cA S H r' s' p' xs vs F := by
  induction rr with
  | nil => exact .nil
  | @cons x v F xs vs G2 h1 hs dj ih =>
    refine .cons ?_ (ih fun q z => h q (z.elim (fun z => .inl (List.mem_cons_of_mem _ z)) fun ⟨P, d, z⟩ => .inr ⟨P, d, List.mem_cons_of_mem _ z⟩)) dj
    cases x with
    | sl q => exact ⟨by rw [(h q (.inl List.mem_cons_self)).2]; exact h1.1, h1.2⟩
    | tm d => exact ⟨h1.1, h1.2.nd, fun i a ha hb => h1.2.dj i a (hp i a ha) hb, h1.2.own⟩
    | sn q P d =>
      obtain ⟨e, d0, v0, e1, e2, at_⟩ := h1
      have z := h q (.inr ⟨P, d, List.mem_cons_self⟩)
      exact ⟨e, d0, v0, by rw [z.1]; exact e1, by rw [z.2]; exact e2, at_⟩
/-- the heap goes on, but where they stand -/
theorem RReps.stay {xs : List R} {vs : List V} (st : ∀ q d0, (∃ P d, R.sn q P d ∈ xs) → gt r q = some d0 → ∃ v, s[q]? = some (some v) ∧ Rep K cA S H d0 v (p q)) (rr : RReps K cA S H r s p xs vs F) (hF : ∀ a ∈ F, H' a = H a) (hp : ∀ j, ∀ a ∈ p j, H' a = H a) : RReps K cA S H' r s p xs vs F := by
  induction rr with
  | nil => exact .nil
  | @cons x v F xs vs G2 h1 hs dj ih =>
    refine .cons ?_ (ih (fun q d0 ⟨P, d, z⟩ => st q d0 ⟨P, d, List.mem_cons_of_mem _ z⟩) fun a ha => hF a (List.mem_append_right _ ha)) dj
    cases x with
    | sl q => exact h1
    | tm d => exact ⟨Rep.mono (fun _ _ e => e) d h1.1 fun a ha => hF a (List.mem_append_left _ ha), h1.2⟩
    | sn q P d =>
      obtain ⟨e, d0, v0, e1, e2, at_⟩ := h1
      obtain ⟨w, e3, rp⟩ := st q d0 ⟨P, d, List.mem_cons_self⟩ e1
      rw [e2] at e3; cases e3
      exact ⟨e, d0, v0, e1, e2, AtP.mono (fun _ _ e => e) at_ rp fun a ha => hp q a ha⟩
theorem gets_move {rs : List R} {gds : List D} (h : gets r rs = some gds) (hq : ∀ q, R.sl q ∈ rs → gt r' q = gt r q) : gets r' rs = some gds := by
  induction rs generalizing gds with
  | nil => exact h
  | cons x xs ih =>
    unfold gets at h ⊢
    split at h
    · rename_i d ds h1 h2
      cases h
      have e1 : x.get r' = some d := by
        cases x with
        | sl q => show gt r' q = some d; rw [hq q List.mem_cons_self]; exact h1
        | tm d => exact h1
        | sn q P d => exact h1
      rw [e1, ih h2 fun q z => hq q (List.mem_cons_of_mem _ z)]
    · cases h
theorem lc_read {tg : Tg} {xi : It} {xc xe : Ex} (hl : ∀ i, L i = true → Lb i = true) (hu : ∀ i ∈ tgs tg, Lb i = false) (h : tX X.K cA L (fun r => (Ex.lc tg xi xc xe).ev G cl r) s H Q) :
    tLc (tI X.K cA L Lb fun r => xi.ev G cl r) (gTg X.K tg) (tT X.K cA Lb (tb1 G cl xc)) (tX X.K cA Lb fun r => xe.ev G cl r) (tgs tg) s H Q := by
  obtain ⟨S, r, p, x, r', st, e, k⟩ := h
  obtain ⟨xs, r1, ds, h1, h2, rfl⟩ := lc_inv e
  refine ⟨S, r, p, xs, r1, st, h1, fun rs gds vsr S1 H1 p1 F0 J hgd hroot st1 rr1 ef1 ⟨Gd, Y, wk, wok⟩ D hD => ?_⟩
  have offT : ∀ q, (R.sl q ∈ rs ∨ ∃ P d, R.sn q P d ∈ rs) → q ∉ tgs tg := fun q z z2 => by
    have := hroot q z
    rw [hu q z2] at this; cases this
  have rootSn : ∀ q P d, R.sn q P d ∈ rs → Lb q = true := fun q P d z => hroot q (.inr ⟨P, d, z⟩)
  let Pv : Nat → Hp → Prop := fun i Hc => ∃ S2 r2 p2 acc Fa F2, Stt X.K cA S2 Hc r2 (wipe s (tgs tg)) p2 ∧ RRep X.K cA S2 Hc r2 (wipe s (tgs tg)) p2 (.tm (.ol acc)) (.ref D) Fa ∧ RReps X.K cA S2 Hc r2 (wipe s (tgs tg)) p2 rs vsr F2 ∧ (∀ a ∈ Fa, a ∈ F2 → False) ∧
    gets r2 rs = some gds ∧ Eff Lb r1 p1 S1 H1 r2 p2 Fa S2 Hc ∧ lcL (lcF G cl tg xc xe) (xs.drop i) acc r2 = some (ds, r')
  refine lc_it wk Pv ?_ (fun i Hc _ ⟨S2, r2, p2, acc, Fa, F2, st2, _, rr2, _, hg2, _, _⟩ => (wok S2 Hc r2 _ p2 F2 st2 rr2 hg2).1) (fun i x Hc H' hi ⟨S2, r2, p2, acc, Fa, F2, st2, ra2, rr2, dj2, hg2, ef2, ev2⟩ y => ?_) (fun Hc ⟨S2, r2, p2, acc, Fa, F2, st2, ra2, rr2, dj2, hg2, ef2, ev2⟩ => ?_)
  · -- the new list
    have sn : S1 D = none := by
      cases z : S1 D with
      | none => rfl
      | some o => rw [st1.sub D o z] at hD; cases hD
    have same : Same H1 (upd H1 D (.lst [])) := fun b o e => by rw [upd_ne (ne_of_none e hD)]; exact e
    have sub2 : Sub S1 (upd H1 D (.lst [])) := fun b o e => same b o (st1.sub b o e)
    have st2 := st1.ext (fun _ _ e => e) same (fun _ _ e => .inl e) sub2
    have e0 : Eff Lb r1 p1 S1 H1 r1 p1 [D] S1 (upd H1 D (.lst [])) := Eff.ext (fun _ _ e => e) same (fun _ _ e => .inl e) fun a ha => by rw [List.mem_singleton.mp ha]; exact hD
    obtain ⟨rr2, dj⟩ := RReps.carry st1 rr1 e0 rootSn
    obtain ⟨p', k1, k2, k3, k4, k5⟩ := wipes_ok (s' := wipe s (tgs tg)) hu st2 (wipe_length _ _) (fun j hj => wipe_get hj) e0
    refine ⟨S1, wipeR r1 (tgs tg), p', [], [D], F0, k1, ⟨.ow (F := []) (by decide) upd_same rfl .nil, by simp, fun j a ha hb => ?_, fun a ha => by rw [List.mem_singleton.mp ha]; exact sn⟩, rr2.move (fun q z => ⟨k4 q (offT q z), wipe_get (offT q z)⟩) k3, fun a ha hb => dj a hb ha, gets_move hgd fun q z => k4 q (offT q (.inl z)), k2, ?_⟩
    · obtain ⟨o, q⟩ := st1.there (k3 j a ha)
      rw [List.mem_singleton.mp hb, hD] at q; cases q
    · rw [← wipeE_eq, List.drop_zero]; exact h2
  · -- a turn
    obtain ⟨_, wy⟩ := wok S2 Hc r2 _ p2 F2 st2 rr2 hg2
    obtain ⟨d, S', hd, hss, hh, cap, sub', rpx⟩ := wy i x H' y
    have edrop : xs.drop i = d :: xs.drop (i + 1) := by
      rw [List.drop_eq_getElem_cons hi]
      congr 1
      rw [List.getElem?_eq_getElem hi] at hd
      exact Option.some.inj hd
    rw [edrop] at ev2
    have sta := st2.ext hss hh cap sub'
    have ea : Eff Lb r2 p2 S2 Hc r2 p2 [] S' H' := Eff.ext hss hh cap fun a ha => absurd ha (by simp)
    have turn : ∃ od e', lcF G cl tg xc xe d r2 = some (od, e') ∧ (match od with | some d' => acc.length < sLine ∧ lcL (lcF G cl tg xc xe) (xs.drop (i + 1)) (acc ++ [d']) e' = some (ds, r') | none => lcL (lcF G cl tg xc xe) (xs.drop (i + 1)) acc e' = some (ds, r')) := by
      unfold lcL at ev2
      split at ev2
      · rename_i d' e' h
        split at ev2
        · rename_i hlt; exact ⟨some d', e', h, hlt, ev2⟩
        · cases ev2
      · rename_i e' h; exact ⟨none, e', h, ev2⟩
      · cases ev2
    obtain ⟨od, e', hF, hrest⟩ := turn
    obtain ⟨ra, b, rb, g1, g2, g3⟩ := lcF_inv hF
    refine bind_ok (Pt := fun _ => false) (F0 := []) (r0 := r2) (p0 := p2) (S0 := S2) (H0 := Hc) (s0 := wipe s (tgs tg)) g1 (fun i h => ⟨hu i h, rfl⟩) sta rpx Tmp.nil (EffS.of ea) (by simp) fun s' p' stb efb ho => ?_
    refine ⟨wipe_eq (by rw [efb.len, wipe_length]) ho, ⟨S', ra, p', b, rb, stb, g2, fun S3 H3 p3 st3 ef3 => ?_⟩⟩
    have e3 : Eff Lb r2 p2 S2 Hc rb p3 [] S3 H3 := efb.ef.trans ef3
    rcases g3 with ⟨rfl, rfl, rfl⟩ | ⟨rfl, d', rc, g4, rfl, rfl⟩
    · refine iteF ?_
      obtain ⟨p4, k1, k2, k3, k4, k5⟩ := wipes_ok (s' := wipe s (tgs tg)) hu st3 (by rw [efb.len]) (fun j hj => (ho j hj).symm) ((ef2.trans e3).drop (G := Fa) fun a ha => List.mem_append_left _ ha) 
      obtain ⟨c1, c2⟩ := RRep.carry st2 ra2 e3 (fun q P d e => by cases e)
      obtain ⟨c3, c4⟩ := RReps.carry st2 rr2 e3 rootSn
      rw [wipeE_eq] at hrest
      refine ⟨S3, _, p4, acc, Fa, F2, k1, ⟨c1.1, c1.2.nd, fun j a ha hb => c1.2.dj j a (k3 j a ha) hb, c1.2.own⟩, c3.move (fun q z => ⟨k4 q (offT q z), rfl⟩) k3, dj2, gets_move hg2 fun q z => ?_, k2, hrest⟩
      rw [k4 q (offT q (.inl z))]
      exact (e3.same q (hroot q (.inl z))).1
    · refine iteT ⟨S3, rb, p3, _, rc, st3, g4, fun yv S4 H4 p4 F4 st4 rr4 ef4 => ?_⟩
      have e4 : Eff Lb r2 p2 S2 Hc rc p4 F4 S4 H4 := e3.trans ef4
      obtain ⟨c1, c2⟩ := RRep.carry st2 ra2 e4 (fun q P d e => by cases e)
      obtain ⟨c3, c4⟩ := RReps.carry st2 rr2 e4 rootSn
      obtain ⟨rpa, tma⟩ := c1
      obtain ⟨rpd, tmd⟩ := rr4
      cases rpa with
      | @ow _ _ _ accV o Ga n ho2 q rsa =>
        cases q
        refine ⟨accV, ho2, by rw [← Reps.length rsa, sizeLine_eq]; exact hrest.1, ?_⟩
        have ndA := List.nodup_cons.mp tma.nd
        have offD : ∀ j a, a ∈ p4 j → a ≠ D := fun j a ha z => tma.dj j a ha (by rw [z]; exact List.mem_cons_self)
        have upj : ∀ a, a ≠ D → upd H4 D (.lst (accV ++ [yv])) a = H4 a := fun a z => upd_ne z
        have sn : S4 D = none := tma.own D List.mem_cons_self
        have st5 : Stt X.K cA S4 (upd H4 D (.lst (accV ++ [yv]))) rc s' p4 := ((st4.x []).ext (fun _ _ e => e) (fun j a _ ha => upj a (offD j a ha)) (fun j a _ ha => st4.own j a ha) fun a o e => by
          rw [upd_ne (ne_of_none e sn)]; exact st4.sub a o e).st
        have ef5 : Eff Lb r1 p1 S1 H1 rc p4 (D :: (Ga ++ F4)) S4 (upd H4 D (.lst (accV ++ [yv]))) := (ef2.trans e4).trans2 (fun _ _ e => e) (fun a o e1 _ e3 => by
            rw [upj a fun z => e3 (by rw [z]; exact List.mem_append_left _ List.mem_cons_self)]; exact e1) (fun _ _ e => .inl e) (fun _ _ => ⟨rfl, rfl⟩) (fun j a hj ha => .inr (.inl ⟨j, hj, ha⟩)) (fun a ha => .inr (.inr (by simpa using ha))) rfl
        obtain ⟨p5, k1, k2, k3, k4, k5⟩ := wipes_ok (s' := wipe s (tgs tg)) hu st5 (by rw [efb.len]) (fun j hj => (ho j hj).symm) ef5
        have offF2 : ∀ a ∈ F2, a ≠ D := fun a ha z => dj2 D List.mem_cons_self (by rw [← z]; exact ha)
        rw [wipeE_eq] at hrest
        have c5 : RReps X.K cA S4 (upd H4 D (.lst (accV ++ [yv]))) rc (wipe s (tgs tg)) p4 rs vsr F2 := RReps.stay (fun q d0 z e => by
          obtain ⟨v, e1, e2⟩ := st4.rep q d0 e
          exact ⟨v, by rw [← ho q (offT q (.inr z))]; exact e1, e2⟩) c3 (fun a ha => upj a (offF2 a ha)) fun j a ha => upj a (offD j a ha)
        have naF4 : ∀ a ∈ F4, a ≠ D := fun a ha z => c2 D List.mem_cons_self (by rw [← z]; exact ha)
        have rpn : Reps X.K cA S4 (upd H4 D (.lst (accV ++ [yv]))) (acc ++ [d']) (accV ++ [yv]) (Ga ++ F4) := by
          have q1 := Reps.mono (H' := upd H4 D (.lst (accV ++ [yv]))) (fun _ _ e => e) acc rsa fun a ha => upj a fun z => ndA.1 (by rw [← z]; exact ha)
          have q2 := Rep.mono (H' := upd H4 D (.lst (accV ++ [yv]))) (fun _ _ e => e) d' rpd fun a ha => upj a (naF4 a ha)
          simpa using Reps.append q1 (.cons q2 .nil)
        refine ⟨S4, wipeR rc (tgs tg), p5, acc ++ [d'], D :: (Ga ++ F4), F2, k1, ⟨.ow (by decide) upd_same rfl rpn, List.nodup_cons.mpr ⟨fun z => (List.mem_append.mp z).elim ndA.1 fun z => naF4 D z rfl, List.nodup_append.mpr ⟨ndA.2, tmd.nd, fun a ha b hb e => c2 a (List.mem_cons_of_mem _ ha) (e ▸ hb)⟩⟩, fun j a ha hb => ?_, fun a ha => ?_⟩,
          c5.move (fun q z => ⟨k4 q (offT q z), rfl⟩) k3, fun a ha hb => ?_, gets_move hg2 fun q z => ?_, k2, hrest.2⟩
        · rcases List.mem_cons.mp hb with z | z
          · exact offD j a (k3 j a ha) z
          · rcases List.mem_append.mp z with z | z
            · exact tma.dj j a (k3 j a ha) (List.mem_cons_of_mem _ z)
            · exact tmd.dj j a (k3 j a ha) z
        · rcases List.mem_cons.mp ha with z | z
          · rw [z]; exact sn
          · rcases List.mem_append.mp z with z | z
            · exact tma.own a (List.mem_cons_of_mem _ z)
            · exact tmd.own a z
        · rcases List.mem_cons.mp ha with z | z
          · exact offF2 a hb z
          · rcases List.mem_append.mp z with z | z
            · exact dj2 a (List.mem_cons_of_mem _ z) hb
            · exact c4 a hb z
        · rw [k4 q (offT q (.inl z))]
          exact (e4.same q (hroot q (.inl z))).1
  · have en : xs.drop xs.length = [] := by simp
    rw [en] at ev2
    unfold lcL at ev2
    cases ev2
    refine k (.ref D) S2 Hc p2 Fa (st2.sig (by rw [wipe_length]) fun i v h => (wipe_some h).1) ⟨ra2.1, ra2.2⟩ ((ef1.trans (ef2.weak hl)).drop fun a ha => List.mem_append_right _ ha)
theorem e_lc {tgE : Expr} {elt iter : Expr} {ifs : List Expr} {scope : Scope} {own : List (Str × Nat)} {pos : Pos} {tg : Tg} {xi : It} {xc xe : Ex}
    (hc : X.calm = true) (hN : X.N.Nodup) (hi : PI X tgE iter (tI X.K cA L Lb fun r => xi.ev G cl r)) (ok : BlkOk X.N X.env.scope scope own) (hown : own.map (·.2) = tgs tg)
    (hg : ∀ (s : Shared) (H : Hp) (C : Addr) (l : List (Str × Addr)) (fp : List Addr), PG (X.blk s H scope (compEnvC scope l C X.env) fp) tgE (gTg X.K tg)) (ht : ∀ (s : Shared) (H : Hp) (C : Addr) (l : List (Str × Addr)) (fp : List Addr), PTs (X.blk s H scope (compEnvC scope l C X.env) fp) ifs (tT X.K cA Lb (tb1 G cl xc)))
    (he : ∀ (s : Shared) (H : Hp) (C : Addr) (l : List (Str × Addr)) (fp : List Addr), PE (X.blk s H scope (compEnvC scope l C X.env) fp) elt (tX X.K cA Lb fun r => xe.ev G cl r)) (hs : ∀ x, foldedSetIterable iter X.env x = pure x)
    (hl : ∀ i, L i = true → Lb i = true) (hu : ∀ i ∈ tgs tg, Lb i = false) : OkE X cA G cl L (.ListComp elt [⟨tgE, iter, ifs, 0⟩] scope pos) (.lc tg xi xc xe) := by
  refine PE.imp (pe_lc hc hN hi ok hg ht he hs) fun s H Q h => ?_
  rw [hown]
  exact lc_read hl hu h
end
end TK
/-! TK, part 17: every expression that is taken over. Own work. -/
namespace TK
open PySem L2
/-- a built-in's name -/
def bltB (x : Str) : Bool := (bltOf x).isSome || (tyOf x).isSome || decide (x = "range")
structure COk (cA : Nat → Addr) (G : Sig) (cl : Cl) (kr : Nat) (c : Cf) (X : Cx) : Prop where
  N : X.N = c.N
  nd : c.N.Nodup
  nm : ∀ x ∈ c.N, (x == ("__debug__" : Str)) = false ∧ (x == ("__classdict__" : Str)) = false
  sc : ∀ x k, c.sc.names.lookup x = some k → k = .local ∨ k = .cell ∨ k = .globalImplicit → X.env.scope.names.lookup x = some k
  scf : ∀ x, c.sc.names.lookup x = some .free → X.env.scope.names.lookup x = some .free ∨ X.env.scope.names.lookup x = some .cell
  fnX : ∀ x, c.sc.names.lookup x = some .cell → X.fn x = true
  calm : X.calm = true
  room : Room (kr + 1) X.A
  blt : ∀ x, bltB x = true → X.mg x = none
  cons : ∀ x, c.cons.contains x = true → ∃ v u d, X.mg x = some u ∧ RelV v u ∧ G.consts.lookup x = some d ∧ (∀ S H, Rep X.K cA S H d v []) ∧ (x == ("__debug__" : Str)) = false
  fns : ∀ x id np df, c.fns.lookup x = some (id, np, df) → (x == ("__debug__" : Str)) = false ∧ (∀ ds d ds', cl id ds = some (d, ds') → ds.length = np) ∧
    ∃ fa fd ps, FnOk X.prog X.w X.K X.mg X.base CX0 kr fa fd ps (spC X.K cA cl id np) ∧ X.mg x = some (.ref fa) ∧ PySem.W.keepIn X.K (.ref fa) = true ∧ ∀ j, ∃ ds, Vals ((df.drop j).map Cn.v) ds ∧ Binds X.K fd ps ds
  isk : ∀ ci ∈ c.isk, IsK X.K (cA ci)
  flds : ∀ ci n, G.flds ci n = true → Cls X.K (cA ci) ∧ NoAttr X.K (cA ci) n
  meths : ∃ n : Nat → Nat, (∀ f ds d ds', cl f ds = some (d, ds') → ds.length = n f) ∧ ∀ ci m f, G.meths ci m = some f → ∃ fa fd ps, Cls X.K (cA ci) ∧ Meth X.K (cA ci) m fa ∧ FnOk X.prog X.w X.K X.mg X.base CX0 kr fa fd ps (spC X.K cA cl f (n f)) ∧ Binds X.K fd ps []
  cls : ∀ x ci, c.cls.lookup x = some ci → (x == ("__debug__" : Str)) = false ∧ X.mg x = some (.ref (cA ci)) ∧
    ((∃ f fa fd ps n, G.init ci = some f ∧ Mk X.K (cA ci) fa ∧ FnOk X.prog X.w X.K X.mg X.base CX0 kr fa fd ps (spC X.K cA cl f n) ∧ Binds X.K fd ps [] ∧ ∀ ds d ds', cl f ds = some (d, ds') → ds.length = n) ∨ (G.init ci = none ∧ Mk0 X.K (cA ci)))
  dct : ∀ x, c.dcts.contains x = true → DctAt X cA G x
section
variable {X : Cx} {cA : Nat → Addr} {G : Sig} {cl : Cl} {kr : Nat} {c : Cf}
theorem COk.lockd (h : COk cA G cl kr c X) (l : List Nat) : COk cA G cl kr { c with lock := l } X := ⟨h.N, h.nd, h.nm, h.sc, h.scf, h.fnX, h.calm, h.room, h.blt, h.cons, h.fns, h.isk, h.flds, h.meths, h.cls, h.dct⟩
theorem lk_eq (c : Cf) (x : Ex) : ∃ l, c.lk x = { c with lock := l } := by
  cases x <;> simp only [Cf.lk] <;> first | exact ⟨_, rfl⟩ | (split <;> exact ⟨_, rfl⟩)
theorem COk.lk (h : COk cA G cl kr c X) (x : Ex) : COk cA G cl kr (c.lk x) X := by
  obtain ⟨l, e⟩ := lk_eq c x
  rw [e]
  exact h.lockd l
theorem COk.room' (h : COk cA G cl kr c X) : Room kr X.A := h.room.mono (Nat.le_succ _)
theorem addLk_eq (c : Cf) (x : It) : ∃ l, addLk c x = { c with lock := l } := by
  cases x <;> simp only [addLk] <;> first | exact ⟨_, rfl⟩ | (split <;> exact ⟨_, rfl⟩)
theorem addLk_mono (c : Cf) (x : It) : ∀ i, c.lks i = true → (addLk c x).lks i = true := by
  intro i h
  cases x <;> simp only [addLk] <;> first | exact h | (split <;> first | exact h | (simp only [Cf.lks, List.contains_cons] at h ⊢; rw [h, Bool.or_true]))
theorem slot_ok (h : COk cA G cl kr c X) {x : Str} {i : Nat} (e : slotOf c x = some i) : X.N[i]? = some x ∧ Vis X.env.scope x ∧ (x == ("__debug__" : Str)) = false ∧ (x == ("__classdict__" : Str)) = false := by
  have ix : ∀ {i : Nat}, c.N.findIdx? (· = x) = some i → c.N[i]? = some x := fun {i} q => by
    obtain ⟨h1, h2, _⟩ := List.findIdx?_eq_some_iff_getElem.mp q
    rw [List.getElem?_eq_getElem h1]
    simpa using h2
  unfold slotOf at e
  split at e
  · rename_i q
    have z := ix e
    exact ⟨by rw [h.N]; exact z, .inl (h.sc x _ q (.inl rfl)), h.nm x (List.mem_of_getElem? z)⟩
  · rename_i q
    have z := ix e
    exact ⟨by rw [h.N]; exact z, .inr (.inl (h.sc x _ q (.inr (.inl rfl)))), h.nm x (List.mem_of_getElem? z)⟩
  · rename_i q
    have z := ix e
    refine ⟨by rw [h.N]; exact z, ?_, h.nm x (List.mem_of_getElem? z)⟩
    rcases h.scf x q with k | k
    · exact .inr (.inr k)
    · exact .inr (.inl k)
  · cases e
theorem gl_ok (h : COk cA G cl kr c X) {x : Str} (e : isGl c x = true) : Gl X x := by
  unfold isGl at e
  split at e
  · rename_i q
    exact h.sc x _ q (.inr (.inr rfl))
  · cases e
theorem binP_ok {o : Operator} {p : P} (h : binP o = some p) : OpR X (binaryOp o) (rP2 X cA p) := by
  cases o <;> simp only [binP] at h <;> cases h
  · exact o_add
  · exact o_sub
  · exact o_mul
  · exact o_mod
  · exact o_pow
  · exact o_fdiv
theorem cmpP_ok (hu : X.A.units + 62 < cLine) {o : CmpOp} {p : P} (h : cmpP o = some p) : OpR X (compareOp o) (rP2 X cA p) := by
  cases o <;> simp only [cmpP] at h <;> cases h
  · exact o_eq hu
  · exact o_ne hu
  · exact o_lt
  · exact o_le
  · exact o_gt
  · exact o_ge
  · exact o_in hu
  · exact o_notin hu
theorem COk.hu (h : COk cA G cl kr c X) : X.A.units + 62 < cLine := by have := h.room.units; omega
/-- targets -/
theorem tgOne_ok (h : COk cA G cl kr c X) {e : Expr} {i : Nat} (q : cTgOne c e = some i) : (∃ x pos, e = .Name x pos ∧ slotOf c x = some i) ∧ PG X e (gName i) ∧ c.lks i = false := by
  unfold cTgOne at q
  split at q
  · rename_i x pos
    split at q
    · rename_i j hj
      split at q
      · cases q
      · rename_i hl
        split at q
        · rename_i hk
          cases q
          obtain ⟨h1, h2, h3, h4⟩ := slot_ok h hj
          have hlk : c.lks i = false := by
            simp only [Bool.or_eq_true, not_or] at hl
            simpa [Cf.lks] using hl.1
          have lc : (c.sc.names.lookup x = some .local) ∨ (c.sc.names.lookup x = some .cell) := by
            unfold isLc at hk
            split at hk
            · rename_i z; exact .inl z
            · rename_i z; exact .inr z
            · cases hk
          refine ⟨⟨x, pos, rfl, hj⟩, ?_, hlk⟩
          rcases lc with z | z
          · have := h.sc x _ z (.inl rfl)
            exact pg_name (by rw [h.N]; exact h.nd) h1 (.inl this) (.inr this)
          · have := h.sc x _ z (.inr (.inl rfl))
            exact pg_name (by rw [h.N]; exact h.nd) h1 (.inr this) (.inl (h.fnX x z))
        · cases q
    · cases q
  · cases q
theorem tgs_ok (h : COk cA G cl kr c X) : ∀ {es : List Expr} {is : List Nat}, cTgs c es = some is → PGs X es (gs is) ∧ (∀ i ∈ is, c.lks i = false) ∧ es.length = is.length ∧ (assignEach es X.env).length = is.length ∧ (assignEach es X.env).findIdx? (·.1) = none
  | [], is, q => by
    cases q
    exact ⟨pgs_nil, by simp, rfl, rfl, rfl⟩
  | e :: es, is, q => by
    simp only [cTgs] at q
    split at q
    · rename_i i is' h1 h2
      split at q
      · cases q
      · cases q
        obtain ⟨⟨x, pos, rfl, _⟩, k1, k2⟩ := tgOne_ok h h1
        obtain ⟨l1, l2, l3, l4, l5⟩ := tgs_ok h h2
        have ea : assignEach (.Name x pos :: es) X.env = (false, assign (.Name x pos) X.env) :: assignEach es X.env := rfl
        refine ⟨pgs_cons k1 l1 (by rw [ea]; rfl), fun i hi => (List.mem_cons.mp hi).elim (fun z => by rw [z]; exact k2) (l2 i), by simp [l3], by rw [ea]; simp [l4], ?_⟩
        rw [ea, List.findIdx?_cons]
        simp [l5]
    · cases q
theorem tg_ok (h : COk cA G cl kr c X) {e : Expr} {tg : Tg} (q : cTg c e = some tg) : PG X e (gTg X.K tg) ∧ ∀ i ∈ tgs tg, c.lks i = false := by
  unfold cTg at q
  split at q
  · obtain ⟨is, h1, rfl⟩ := Option.map_eq_some_iff.mp q
    obtain ⟨l1, l2, l3, l4, l5⟩ := tgs_ok h h1
    refine ⟨⟨fun pins s σ H v u Q I r w => ?_⟩, l2⟩
    rcases w with w | w
    · exact (pg_tup h.calm l1 l4 l5).run pins s σ H v u Q I r w
    · exact (pg_unl h.calm l1 l4 l5).run pins s σ H v u Q I r w
  · obtain ⟨i, h1, rfl⟩ := Option.map_eq_some_iff.mp q
    obtain ⟨_, k1, k2⟩ := tgOne_ok h h1
    exact ⟨k1, by simp [tgs, k2]⟩
/-! ### a comprehension's block -/
theorem relabel_free {env : PySem.Env} : ∀ {names : List (Str × NameKind)} {x : Str}, names.lookup x = some .free →
    (names.map fun (n, k) => if (k == .free && env.scope.kind == .function && env.kindOf n == some .cell) then (n, NameKind.cell) else (n, k)).lookup x = some .free ∨
    (names.map fun (n, k) => if (k == .free && env.scope.kind == .function && env.kindOf n == some .cell) then (n, NameKind.cell) else (n, k)).lookup x = some .cell
  | [], _, h => by simp at h
  | (n, k) :: r, x, h => by
    have ih := @relabel_free env r x
    rw [List.map_cons]
    cases hx : x == n with
    | true =>
      simp only [List.lookup_cons, hx] at h
      cases h
      by_cases hc : (NameKind.free == .free && env.scope.kind == .function && env.kindOf n == some .cell) = true
      · refine .inr ?_
        simp only [hc, if_true, List.lookup_cons, hx]
      · refine .inl ?_
        simp only [if_neg hc, List.lookup_cons, hx]
    | false =>
      simp only [List.lookup_cons, hx] at h
      by_cases hc : (k == NameKind.free && env.scope.kind == .function && env.kindOf n == some .cell) = true
      · simp only [hc, if_true, List.lookup_cons, hx]; exact ih h
      · simp only [if_neg hc, List.lookup_cons, hx]; exact ih h
theorem relabel_other {env : PySem.Env} {k0 : NameKind} (h0 : (k0 == NameKind.free) = false) : ∀ {names : List (Str × NameKind)} {x : Str}, names.lookup x = some k0 →
    (names.map fun (n, k) => if (k == .free && env.scope.kind == .function && env.kindOf n == some .cell) then (n, NameKind.cell) else (n, k)).lookup x = some k0
  | [], _, h => by simp at h
  | (n, k) :: r, x, h => by
    have ih := @relabel_other env k0 h0 r x
    rw [List.map_cons]
    cases hx : x == n with
    | true =>
      simp only [List.lookup_cons, hx] at h
      cases h
      simp [h0, List.lookup_cons, hx]
    | false =>
      simp only [List.lookup_cons, hx] at h
      by_cases hc : (k == NameKind.free && env.scope.kind == .function && env.kindOf n == some .cell) = true
      · simp only [hc, if_true, List.lookup_cons, hx]; exact ih h
      · simp only [if_neg hc, List.lookup_cons, hx]; exact ih h
theorem COk.blk (h : COk cA G cl kr c X) {scope : Scope} {own : List (Str × Nat)} (s : Shared) (H : Hp) (C : Addr) (l : List (Str × Addr)) (fp : List Addr) : COk cA G cl kr { c with sc := scope } (X.blk s H scope (compEnvC scope l C X.env) fp) := by
  refine ⟨h.N, h.nd, h.nm, fun x k q hk => ?_, fun x q => relabel_free q, fun x q => ?_, h.calm, h.room, h.blt, h.cons, h.fns, h.isk, h.flds, h.meths, h.cls, h.dct⟩
  · exact relabel_other (by rcases hk with rfl | rfl | rfl <;> rfl) q
  · show (scope.names.lookup x == some .cell) = true
    rw [q]; rfl
theorem blk_ok (h : COk cA G cl kr c X) {scope : Scope} {own : List (Str × Nat)} (q : blkC c.N c.sc scope own = true) : BlkOk X.N X.env.scope scope own := by
  have b := blkOk_by q
  rw [h.N]
  refine ⟨b.kind, b.uniq, b.ix, fun y hy e => ?_, b.own⟩
  rcases b.free y hy e with z | z
  · exact .inl (h.sc _ _ z (.inr (.inl rfl)))
  · rcases h.scf _ z with k | k
    · exact .inr k
    · exact .inl k
end
end TK
/-! TK, part 18: every expression that is taken over, by induction. Own work. -/
namespace TK
open PySem L2
section
variable {X : Cx} {cA : Nat → Addr} {G : Sig} {cl : Cl} {kr : Nat} {c : Cf}
abbrev tBX (K : PySem.W.Frag) (cA : Nat → Addr) (G : Sig) (cl : Cl) (L : LK) (x : Ex) : TT := tT K cA L (tb1 G cl x)
def Ok3 (cA : Nat → Addr) (G : Sig) (cl : Cl) (c : Cf) (X : Cx) (e : Expr) (x : Ex) : Prop := OkE X cA G cl c.lks e x ∧ (tstOk e = true → OkT X cA G cl c.lks e x) ∧ ∀ o as pos, e = .BoolOp o as pos → PW X e (tBX X.K cA G cl c.lks x)
def CEok (cA : Nat → Addr) (G : Sig) (cl : Cl) (kr : Nat) (f : Cf → Md → Expr → Option Ex) : Prop := ∀ c m e x X, COk cA G cl kr c X → f c m e = some x → Ok3 cA G cl c X e x
theorem plain3 {e : Expr} {x : Ex} (h : OkE X cA G cl c.lks e x) (he : ∀ whole, isTrue e X.env whole = (do let v ← whole; standAt e.pos; holding [v] (truthy v))) (hb : ∀ o as pos, e ≠ .BoolOp o as pos) : Ok3 cA G cl c X e x :=
  ⟨h, fun _ => t_val h he, fun o as pos q => (hb o as pos q).elim⟩
theorem args_ok {f : Cf → Md → Expr → Option Ex} (hf : CEok cA G cl kr f) {m : Md} : ∀ {es : List Expr} {c : Cf} {xs : Exs}, COk cA G cl kr c X → cArgs f c m es = some xs → OkA X cA G cl c.lks es xs ∧ es.all noStar = true ∧ (es = [] → xs = .nil)
  | [], c, xs, h, q => by cases q; exact ⟨a_nil, rfl, fun _ => rfl⟩
  | e :: es, c, xs, h, q => by
    simp only [cArgs] at q
    split at q
    · rename_i hs
      split at q
      · rename_i x hx
        split at q
        · rename_i ys hy
          cases q
          obtain ⟨h1, h2, _⟩ := args_ok hf (h.lk x) hy
          exact ⟨a_cons hs (hf c m e x X h hx).1 h1 (lk_mono c x) (root_ok c x), by simp [hs, h2], by simp⟩
        · cases q
      · cases q
    · cases q
/-- a place within a slot, the slot locked ahead of it -/
theorem finX_ok {m : Md} {e : Expr} {x : Ex} (h : OkE X cA G cl c.lks e x) : OkE X cA G cl c.lks e (finX c m x) := by
  unfold finX
  split
  · exact h
  · split
    · rename_i i hi
      split
      · exact h
      · rename_i hc
        exact e_cs h (by simpa [Cf.lks] using hc)
    · exact h
theorem slice_ok {f : Cf → Md → Expr → Option Ex} (hf : CEok cA G cl kr f) (h : COk cA G cl kr c X) {a : Expr} {lo hi : Option Expr} {xa x : Ex} {pos p2 : Pos} (ha : f c .op a = some xa)
    (q : (match lo, hi with
        | none, none => some (Ex.prim (.sl false false) (Exs.of [xa]))
        | some l, none => match f (c.lk xa) .op l with
          | some xl => some (.prim (.sl true false) (Exs.of [xa, xl]))
          | none => none
        | none, some h => match f (c.lk xa) .op h with
          | some xh => some (.prim (.sl false true) (Exs.of [xa, xh]))
          | none => none
        | some l, some h => match f (c.lk xa) .op l with
          | some xl => match f ((c.lk xa).lk xl) .op h with
            | some xh => if xh.quiet then some (.prim (.sl true true) (Exs.of [xa, xl, xh])) else none
            | none => none
          | none => none) = some x) : OkE X cA G cl c.lks (.Subscript a (.Slice lo hi none p2) pos) x := by
  have h0 := (hf c .op a xa X h ha).1
  split at q
  · cases q; exact e_sl0 h0
  · split at q
    · rename_i xl hl
      cases q
      exact e_slL h0 (hf _ _ _ _ X (h.lk xa) hl).1 (lk_mono c xa) (root_ok c xa)
    · cases q
  · split at q
    · rename_i xl hl
      cases q
      exact e_slH h0 (hf _ _ _ _ X (h.lk xa) hl).1 (lk_mono c xa) (root_ok c xa)
    · cases q
  · split at q
    · rename_i xl hl
      split at q
      · rename_i xh hh
        split at q
        · rename_i hq
          cases q
          exact e_slB h0 (hf _ _ _ _ X (h.lk xa) hl).1 (hf _ _ _ _ X ((h.lk xa).lk xl) hh).1 hq (lk_mono c xa) (root_ok c xa) (lk_mono _ xl) (root_ok _ xl)
        · cases q
      · cases q
    · cases q
theorem pts_cond {f : Cf → Md → Expr → Option Ex} (hf : CEok cA G cl kr f) (h : COk cA G cl kr c X) {ifs : List Expr} {x : Ex} (q : cCond f c ifs = some x) : PTs X ifs (tBX X.K cA G cl c.lks x) := by
  unfold cCond at q
  split at q
  · cases q
    refine ⟨fun pins s σ H Q I w => pts_nil.run pins s σ H Q I ?_⟩
    obtain ⟨S, r, p, b, r', st, e, k⟩ := w
    cases e
    exact k S H p st Eff.refl
  · split at q
    · rename_i ht
      exact pts_one ((hf c .op _ x X h q).2.1 ht)
    · cases q
  · cases q
theorem lc_ok {f : Cf → Md → Expr → Option Ex} (hf : CEok cA G cl kr f) (h : COk cA G cl kr c X) {el tgE it : Expr} {ifs : List Expr} {sc : Scope} {pos : Pos} {xi : It} {tg : Tg} {xc xe : Ex}
    (hi : PI X tgE it (tI X.K cA c.lks (addLk c xi).lks fun r => xi.ev G cl r)) (hs : ∀ x, foldedSetIterable it X.env x = pure x) (ht : cTg { addLk c xi with sc := sc } tgE = some tg) (hc : cCond f { addLk c xi with sc := sc } ifs = some xc) (he : f { addLk c xi with sc := sc } .val el = some xe)
    (hb : blkC c.N c.sc sc (ownOf { addLk c xi with sc := sc } tgE) = true) (ho : (ownOf { addLk c xi with sc := sc } tgE).map (·.2) = tgs tg) : OkE X cA G cl c.lks (.ListComp el [⟨tgE, it, ifs, 0⟩] sc pos) (.lc tg xi xc xe) := by
  obtain ⟨l, hal⟩ := addLk_eq c xi
  have hb2 : ∀ (s : Shared) (H : Hp) (C : Addr) (ls : List (Str × Addr)) (fp : List Addr), COk cA G cl kr { addLk c xi with sc := sc } (X.blk s H sc (compEnvC sc ls C X.env) fp) := fun s H C ls fp => by
    rw [hal]
    exact (COk.blk (own := []) h s H C ls fp).lockd l
  have hu : ∀ i ∈ tgs tg, (addLk c xi).lks i = false := by
    have := (tg_ok (hb2 X.s_0 (fun _ => none) 0 [] []) ht).2
    exact this
  exact e_lc h.calm (by rw [h.N]; exact h.nd) hi (blk_ok h hb) ho (fun s H C ls fp => (tg_ok (hb2 s H C ls fp) ht).1) (fun s H C ls fp => pts_cond hf (hb2 s H C ls fp) hc) (fun s H C ls fp => (hf _ _ _ _ _ (hb2 s H C ls fp) he).1) hs (addLk_mono c xi) hu
theorem name_ok (h : COk cA G cl kr c X) {m : Md} {x : Str} {y : Ex} {pos : Pos} (q : (match slotOf c x with
      | some i => some (match m with
        | .op => Ex.pk i
        | .val => if c.lock.contains i then .vz i else .var i
        | .arg => if c.lock.contains i then .vz i else .pk i)
      | none => if isGl c x && c.cons.contains x then some (.glo x) else none) = some y) : OkE X cA G cl c.lks (.Name x pos) y := by
  split at q
  · rename_i i hi
    obtain ⟨h1, h2, h3, h4⟩ := slot_ok h hi
    cases q
    split
    · exact e_pk h1 h2 h3 h4
    · split
      · exact e_vz h1 h2 h3 h4
      · rename_i hl
        exact e_var h1 h2 (by simpa [Cf.lks] using hl) h3 h4
    · split
      · exact e_vz h1 h2 h3 h4
      · exact e_pk h1 h2 h3 h4
  · split at q
    · rename_i hc
      cases q
      simp only [Bool.and_eq_true] at hc
      obtain ⟨v, u, d, k1, k2, k3, k4, k5⟩ := h.cons x hc.2
      exact e_glo (gl_ok h hc.1) k1 k2 k3 k4 k5
    · cases q
theorem isT (e : Expr) (env : PySem.Env) (h : match e with | .UnaryOp .Not _ _ => false | .BoolOp _ _ _ => false | .IfExp _ _ _ _ => false | .Compare _ _ _ _ => false | _ => true) (whole : Sem Value) : isTrue e env whole = (do let v ← whole; standAt e.pos; holding [v] (truthy v)) := by
  cases e <;> first | rfl | (simp at h; done) | skip
  rename_i op _ _
  cases op <;> first | rfl | (simp at h; done)
theorem it_ok {n : Nat} (hf : CEok cA G cl kr (cE n)) (h : COk cA G cl kr c X) {m : Md} {tgE e : Expr} {xi : It} (q : cE.cIt (n + 1) c m e = some xi) (hen : enOk tgE xi = true) : PI X tgE e (tI X.K cA c.lks (addLk c xi).lks fun r => xi.ev G cl r) ∧ ∀ v, foldedSetIterable e X.env v = pure v := by
  have seq : ∀ {e : Expr} {xi : It}, (cE n c m e).map It.seq = some xi → PI X tgE e (tI X.K cA c.lks (addLk c xi).lks fun r => xi.ev G cl r) := fun {e xi} q => by
    obtain ⟨x, h1, rfl⟩ := Option.map_eq_some_iff.mp q
    exact i_seq (hf c m e x X h h1).1 fun i hi => by simp only [addLk, hi, Cf.lks]; simp
  simp only [cE.cIt] at q
  split at q
  · rename_i f pn a pos
    refine ⟨?_, fun v => rfl⟩
    split at q
    · rename_i hr
      simp only [Bool.and_eq_true, decide_eq_true_eq] at hr
      split at q
      · rename_i hs
        obtain ⟨x, h1, rfl⟩ := Option.map_eq_some_iff.mp q
        exact i_rng1 hr.2 (gl_ok h hr.1) (h.blt f (by rw [hr.2]; rfl)) hs (hf c .op a x X h h1).1
      · cases q
    · split at q
      · rename_i hr
        simp only [Bool.and_eq_true, decide_eq_true_eq] at hr
        split at q
        · rename_i hs
          obtain ⟨x, h1, rfl⟩ := Option.map_eq_some_iff.mp q
          cases tgE <;> simp only [enOk] at hen <;> first | cases hen | skip
          exact i_enum hr.2 (gl_ok h hr.1) (h.blt f (by rw [hr.2]; rfl)) hs (hf c m a x X h h1).1 fun i hi => by simp only [addLk, hi, Cf.lks]; simp
        · cases q
      · exact seq q
  · rename_i f pn a b pos
    refine ⟨?_, fun v => rfl⟩
    split at q
    · rename_i hr
      simp only [Bool.and_eq_true, decide_eq_true_eq] at hr
      split at q
      · rename_i hs
        simp only [Bool.and_eq_true] at hs
        split at q
        · rename_i xa ha
          split at q
          · rename_i xb hb
            cases q
            exact i_rng2 hr.2 (gl_ok h hr.1) (h.blt f (by rw [hr.2]; rfl)) hs.1 hs.2 (hf c .op a xa X h ha).1 (hf _ .op b xb X (h.lk xa) hb).1 (lk_mono c xa) (root_ok c xa)
          · cases q
        · cases q
      · cases q
    · exact seq q
  · split at q
    · rename_i hp
      refine ⟨seq q, fun v => ?_⟩
      cases e <;> first | rfl | (simp [plainE] at hp)
    · cases q
def Blt.nm : Blt → Str
  | .set => "set" | .enum => "enumerate" | .sorted => "sorted" | .all => "all" | .len => "len" | .list => "list" | .tuple => "tuple" | .int => "int" | .str => "str" | .min => "min" | .max => "max" | .isi => "isinstance" | .dict => "dict"
theorem bltOf_eq {g : Str} {b : Blt} (h : bltOf g = some b) : g = b.nm := by
  by_cases e0 : g = "len"
  · subst e0
    have z : bltOf "len" = some .len := by decide
    rw [z] at h; cases h; rfl
  by_cases e1 : g = "list"
  · subst e1
    have z : bltOf "list" = some .list := by decide
    rw [z] at h; cases h; rfl
  by_cases e2 : g = "tuple"
  · subst e2
    have z : bltOf "tuple" = some .tuple := by decide
    rw [z] at h; cases h; rfl
  by_cases e3 : g = "int"
  · subst e3
    have z : bltOf "int" = some .int := by decide
    rw [z] at h; cases h; rfl
  by_cases e4 : g = "str"
  · subst e4
    have z : bltOf "str" = some .str := by decide
    rw [z] at h; cases h; rfl
  by_cases e5 : g = "min"
  · subst e5
    have z : bltOf "min" = some .min := by decide
    rw [z] at h; cases h; rfl
  by_cases e6 : g = "max"
  · subst e6
    have z : bltOf "max" = some .max := by decide
    rw [z] at h; cases h; rfl
  by_cases e7 : g = "isinstance"
  · subst e7
    have z : bltOf "isinstance" = some .isi := by decide
    rw [z] at h; cases h; rfl
  by_cases e8 : g = "sorted"
  · subst e8
    have z : bltOf "sorted" = some .sorted := by decide
    rw [z] at h; cases h; rfl
  by_cases e9 : g = "all"
  · subst e9
    have z : bltOf "all" = some .all := by decide
    rw [z] at h; cases h; rfl
  by_cases e10 : g = "dict"
  · subst e10
    have z : bltOf "dict" = some .dict := by decide
    rw [z] at h; cases h; rfl
  by_cases e11 : g = "set"
  · subst e11
    have z : bltOf "set" = some .set := by decide
    rw [z] at h; cases h; rfl
  by_cases e12 : g = "enumerate"
  · subst e12
    have z : bltOf "enumerate" = some .enum := by decide
    rw [z] at h; cases h; rfl
  · simp [bltOf, e0, e1, e2, e3, e4, e5, e6, e7, e8, e9, e10, e11, e12] at h
theorem blt_ok {f : Cf → Md → Expr → Option Ex} (hf : CEok cA G cl kr f) (h : COk cA G cl kr c X) {g : Str} {as : List Expr} {pn pos : Pos} {x : Ex} (hg : Gl X g) (q : (match bltOf g, as with
          | some .isi, [a, .Name t _] => match tyOf t, f c .op a with
            | some ty, some xa => if noStar a && isGl c t then some (.prim (.isi ty c.isk) (Exs.of [xa])) else none
            | _, _ => none
          | some .isi, [a, .Tuple [.Name t _, .Name u _] _ _] => match tyOf t, tyOf u, f c .op a with
            | some ty, some tz, some xa => if noStar a && isGl c t && isGl c u then some (.prim (.isi2 ty tz c.isk) (Exs.of [xa])) else none
            | _, _, _ => none
          | some .len, [a] => if noStar a then (f c .op a).map fun x => .prim .len (Exs.of [x]) else none
          | some .list, [a] => if noStar a then (f c .op a).map fun x => .prim .list_ (Exs.of [x]) else none
          | some .tuple, [a] => if noStar a then (f c .op a).map fun x => .prim .tuple_ (Exs.of [x]) else none
          | some .sorted, [a] => match setOr a with
            | some (y, z) => if isGl c "set" && (noStar y && noStar z) then match f c .op y with
              | some xy => match f (c.lk (.prim .ssort (Exs.of [xy]))) .op z with
                | some xz => some (.prim .usort (Exs.of [.prim .ssort (Exs.of [xy]), xz]))
                | none => none
              | none => none
              else none
            | none => match setCall a with
              | some y => if isGl c "set" && noStar y then (f c .op y).map fun x => .prim .ssort (Exs.of [x]) else none
              | none => if noStar a then (f c .op a).map fun x => .prim .sorted (Exs.of [x]) else none
          | some .all, [a] => if noStar a then (f c .op a).map fun x => .prim .all_ (Exs.of [x]) else none
          | some .dict, [a] => if noStar a then (f c .op a).map fun x => .prim .dict_ (Exs.of [x]) else none
          | some .int, [a] => if noStar a then (f c .op a).map fun x => .prim .int_ (Exs.of [x]) else none
          | some .str, [a] => if noStar a then (f c .op a).map fun x => .prim .str_ (Exs.of [x]) else none
          | some .min, [a, b] => match cArgs f c .op [a, b] with
            | some xs => some (.prim .min2 xs)
            | none => none
          | some .max, [a, b] => match cArgs f c .op [a, b] with
            | some xs => some (.prim .max2 xs)
            | none => none
          | _, _ => none) = some x) : OkE X cA G cl c.lks (.Call (.Name g pn) as [] pos) x := by
  have nm : ∀ {b : Blt}, bltOf g = some b → X.mg g = none := fun {b} e => h.blt g (by unfold bltB; rw [e]; rfl)
  have one : ∀ {a : Expr} {xa : Ex}, noStar a = true → f c .op a = some xa → OkA X cA G cl c.lks [a] (Exs.of [xa]) := fun {a xa} h1 h2 => a_cons h1 (hf c .op a xa X h h2).1 a_nil (lk_mono c xa) (root_ok c xa)
  split at q
  · rename_i a t pt hb
    split at q
    · rename_i ty xa ht ha
      split at q
      · rename_i hc
        cases q
        simp only [Bool.and_eq_true] at hc
        exact e_isi h.isk (bltOf_eq hb) hg (nm hb) ht (gl_ok h hc.2) (h.blt t (by unfold bltB; rw [ht]; simp)) hc.1 (hf c .op a xa X h ha).1
      · cases q
    · cases q
  · rename_i a t pt u pu k tp hb
    split at q
    · rename_i ty tz xa ht hu ha
      split at q
      · rename_i hc
        cases q
        simp only [Bool.and_eq_true] at hc
        exact e_isi2 h.isk (bltOf_eq hb) hg (nm hb) ht (gl_ok h hc.1.2) (h.blt t (by unfold bltB; rw [ht]; simp)) hu (gl_ok h hc.2) (h.blt u (by unfold bltB; rw [hu]; simp)) hc.1.1 (hf c .op a xa X h ha).1
      · cases q
    · cases q
  · rename_i a hb
    split at q
    · rename_i hs
      obtain ⟨xa, ha, rfl⟩ := Option.map_eq_some_iff.mp q
      cases bltOf_eq hb
      exact e_callB c_len hg (nm hb) (by decide) (one hs ha) (by decide) (by decide) (by simp [hs])
    · cases q
  · rename_i a hb
    split at q
    · rename_i hs
      obtain ⟨xa, ha, rfl⟩ := Option.map_eq_some_iff.mp q
      cases bltOf_eq hb
      exact e_callTy c_list hg (nm hb) (by decide) (one hs ha) (by decide) (by decide) (by simp [hs])
    · cases q
  · rename_i a hb
    split at q
    · rename_i hs
      obtain ⟨xa, ha, rfl⟩ := Option.map_eq_some_iff.mp q
      cases bltOf_eq hb
      exact e_callTy c_tuple hg (nm hb) (by decide) (one hs ha) (by decide) (by decide) (by simp [hs])
    · cases q
  · rename_i a hb
    have hset : X.mg "set" = none := h.blt "set" (by decide)
    split at q
    · rename_i y z hor
      split at q
      · rename_i hs
        simp only [Bool.and_eq_true] at hs
        split at q
        · rename_i xy hy
          split at q
          · rename_i xz hz
            cases q
            have e1 : c.lk (.prim .ssort (Exs.of [xy])) = c := rfl
            rw [e1] at hz
            exact e_usort h.calm hor (bltOf_eq hb) hg (nm hb) (gl_ok h hs.1) hset hs.2.1 hs.2.2 (hf c .op y xy X h hy).1 (hf c .op z xz X h hz).1
          · cases q
        · cases q
      · cases q
    · split at q
      · rename_i y hse
        split at q
        · rename_i hs
          simp only [Bool.and_eq_true] at hs
          obtain ⟨xy, hy, rfl⟩ := Option.map_eq_some_iff.mp q
          exact e_ssort h.calm hse (bltOf_eq hb) hg (nm hb) (gl_ok h hs.1) hset hs.2 (hf c .op y xy X h hy).1
        · cases q
      · split at q
        · rename_i hs
          obtain ⟨xa, ha, rfl⟩ := Option.map_eq_some_iff.mp q
          cases bltOf_eq hb
          exact e_callB c_sorted hg (nm hb) (by decide) (one hs ha) (by decide) (by decide) (by simp [hs])
        · cases q
  · rename_i a hb
    split at q
    · rename_i hs
      obtain ⟨xa, ha, rfl⟩ := Option.map_eq_some_iff.mp q
      cases bltOf_eq hb
      exact e_callB (c_all h.calm) hg (nm hb) (by decide) (one hs ha) (by decide) (by decide) (by simp [hs])
    · cases q
  · rename_i a hb
    split at q
    · rename_i hs
      obtain ⟨xa, ha, rfl⟩ := Option.map_eq_some_iff.mp q
      cases bltOf_eq hb
      exact e_callTy (c_dict h.calm) hg (nm hb) (by decide) (one hs ha) (by decide) (by decide) (by simp [hs])
    · cases q
  · rename_i a hb
    split at q
    · rename_i hs
      obtain ⟨xa, ha, rfl⟩ := Option.map_eq_some_iff.mp q
      cases bltOf_eq hb
      exact e_callTy c_int hg (nm hb) (by decide) (one hs ha) (by decide) (by decide) (by simp [hs])
    · cases q
  · rename_i a hb
    split at q
    · rename_i hs
      obtain ⟨xa, ha, rfl⟩ := Option.map_eq_some_iff.mp q
      cases bltOf_eq hb
      exact e_callTy c_str hg (nm hb) (by decide) (one hs ha) (by decide) (by decide) (by simp [hs])
    · cases q
  · rename_i a b hb
    split at q
    · rename_i xs hxs
      cases q
      cases bltOf_eq hb
      obtain ⟨k1, k2, _⟩ := args_ok hf h hxs
      exact e_callB (c_min h.calm) hg (nm hb) (by decide) k1 (by decide) (by decide) k2
    · cases q
  · rename_i a b hb
    split at q
    · rename_i xs hxs
      cases q
      cases bltOf_eq hb
      obtain ⟨k1, k2, _⟩ := args_ok hf h hxs
      exact e_callB (c_max h.calm) hg (nm hb) (by decide) k1 (by decide) (by decide) k2
    · cases q
  · cases q
theorem cArgs_ne {f : Cf → Md → Expr → Option Ex} {m : Md} {e : Expr} {es : List Expr} {c : Cf} {xs : Exs} (q : cArgs f c m (e :: es) = some xs) : ∃ y ys, xs = .cons y ys := by
  simp only [cArgs] at q
  split at q
  · split at q
    · split at q
      · cases q; exact ⟨_, _, rfl⟩
      · cases q
    · cases q
  · cases q
theorem evs_cons {y : Ex} {ys : Exs} {r r' : Env} {rs : List R} (h : (Exs.cons y ys).ev G cl r = some (rs, r')) : ∃ a b, rs = a :: b := by
  simp only [Exs.ev] at h
  split at h
  · split at h
    · cases h; exact ⟨_, _, rfl⟩
    · cases h
  · cases h
theorem cE_ok : ∀ n, CEok cA G cl kr (cE n) := by
  intro n
  induction n using Nat.strongRecOn with
  | _ n ih =>
  cases n with
  | zero => intro c m e x X h q; cases q
  | succ n =>
  have hf := ih n (Nat.lt_succ_self n)
  intro c m e x X h q
  cases e with
  | Constant k _ pos =>
    cases k <;> simp only [cE] at q <;> cases q
    · exact plain3 e_non (isT _ _ rfl) (by simp)
    · exact plain3 e_bl (isT _ _ rfl) (by simp)
    · exact plain3 e_int (isT _ _ rfl) (by simp)
    · exact plain3 e_str (isT _ _ rfl) (by simp)
  | Name y pos =>
    simp only [cE] at q
    exact plain3 (name_ok h q) (isT _ _ rfl) (by simp)
  | BinOp a o b pos =>
    simp only [cE] at q
    split at q
    · rename_i p xa hp ha
      split at q
      · rename_i xb hb
        cases q
        exact plain3 (e_bin (binP_ok hp) (hf _ _ _ _ X h ha).1 (hf _ _ _ _ X (h.lk xa) hb).1 (lk_mono c xa) (root_ok c xa)) (isT _ _ rfl) (by simp)
      · cases q
    · cases q
  | UnaryOp o a pos =>
    cases o <;> simp only [cE] at q <;> try cases q
    · split at q
      · rename_i ht
        split at q
        · rename_i xa ha
          cases q
          have k := hf _ _ _ _ X h ha
          exact ⟨e_nott k.1, fun _ => t_nott (k.2.1 ht), by simp⟩
        · cases q
      · cases q
    · split at q
      · rename_i xa ha
        cases q
        exact plain3 (e_neg (hf _ _ _ _ X h ha).1) (isT _ _ rfl) (by simp)
      · cases q
  | BoolOp o as pos =>
    match as, q with
    | [], q => simp only [cE, cDct] at q; cases q
    | [a], q => simp only [cE, cDct] at q; cases q
    | a :: b :: r, q =>
      simp only [cE] at q
      split at q
      · rename_i ht
        simp only [Bool.and_eq_true] at ht
        split at q
        · rename_i xa xb ha hb
          have ka := hf _ _ _ _ X h ha
          have tail : OkE X cA G cl c.lks (.BoolOp o (b :: r) pos) xb ∧ PW X (.BoolOp o (b :: r) pos) (tBX X.K cA G cl c.lks xb) := by
            split at hb
            · rename_i hr
              have er : r = [] := by simpa using hr
              subst er
              have kb := hf _ _ _ _ X h hb
              refine ⟨pe_one kb.1, ?_⟩
              cases o
              · exact pw_and1 (kb.2.1 ht.2)
              · exact pw_or1 (kb.2.1 ht.2)
            · have kb := hf _ _ _ _ X h hb
              exact ⟨kb.1, kb.2.2 o (b :: r) pos rfl⟩
          cases q
          cases o
          · have w : PW X (.BoolOp .And (a :: b :: r) pos) (tBX X.K cA G cl c.lks (.ands xa xb)) := PW.imp (pw_and (ka.2.1 ht.1) tail.2) fun s H Q h => and_of h
            refine ⟨PE.imp (pe_and ka.1 tail.1) fun s H Q h => andv_of h fun s H Q h => btail h, fun _ => w.pt, fun o as pos e => ?_⟩
            exact w
          · have w : PW X (.BoolOp .Or (a :: b :: r) pos) (tBX X.K cA G cl c.lks (.ors xa xb)) := PW.imp (pw_or (ka.2.1 ht.1) tail.2) fun s H Q h => or_of h
            refine ⟨PE.imp (pe_or ka.1 tail.1) fun s H Q h => orv_of h fun s H Q h => btail h, fun _ => w.pt, fun o as pos e => ?_⟩
            exact w
        · cases q
      · cases q
  | IfExp t a b pos =>
    simp only [cE] at q
    split at q
    · rename_i ht
      split at q
      · rename_i xt xa xb h1 h2 h3
        cases q
        exact ⟨e_ite ((hf _ _ _ _ X h h1).2.1 ht) (hf _ _ _ _ X h h2).1 (hf _ _ _ _ X h h3).1, fun z => by simp [tstOk] at z, by simp⟩
      · cases q
    · cases q
  | Compare a os bs pos =>
    match os, bs, q with
    | [o], [b], q =>
      simp only [cE] at q
      split at q
      · split at q
        · rename_i xa ha
          cases q
          exact ⟨e_isn (hf _ _ _ _ X h ha).1, fun _ => t_isn (hf _ _ _ _ X h ha).1, by simp⟩
        · cases q
      · split at q
        · rename_i xa ha
          cases q
          exact ⟨e_notn (hf _ _ _ _ X h ha).1, fun _ => t_notn (hf _ _ _ _ X h ha).1, by simp⟩
        · cases q
      · split at q
        · rename_i p xa hp ha
          split at q
          · rename_i hb
            split at q
            · rename_i xb hxb
              cases q
              have k1 := (hf _ _ _ _ X h ha).1
              have k2 := (hf _ _ _ _ X (h.lk xa) hxb).1
              exact ⟨e_cmp (cmpP_ok h.hu hp) (plainMark _ hb) k1 k2 (lk_mono c xa) (root_ok c xa), fun _ => t_cmp (cmpP_ok h.hu hp) (plainMark _ hb) k1 k2 (lk_mono c xa) (root_ok c xa), by simp⟩
            · cases q
          · cases q
        · cases q
    | [o, o'], [b, z], q =>
      simp only [cE] at q
      split at q
      · rename_i p p' xa hp hp' ha
        split at q
        · rename_i hz
          simp only [Bool.and_eq_true] at hz
          split at q
          · rename_i xb hb
            split at q
            · rename_i xz hxz
              cases q
              have k1 := (hf _ _ _ _ X h ha).1
              have k2 := (hf _ _ _ _ X (h.lk xa) hb).1
              have k3 := (hf _ _ _ _ X ((h.lk xa).lk xb) hxz).1
              exact ⟨e_chain (cmpP_ok h.hu hp) (cmpP_ok h.hu hp') hz.1 k1 k2 k3 (lk_mono c xa) (root_ok c xa) (lk_mono _ xb) (root_ok _ xb), fun _ => t_chain (cmpP_ok h.hu hp) (cmpP_ok h.hu hp') hz.1 k1 k2 k3 (lk_mono c xa) (root_ok c xa) (lk_mono _ xb) (root_ok _ xb), by simp⟩
            · cases q
          · cases q
        · cases q
      · cases q
    | [], _, q => simp only [cE, cDct] at q; cases q
    | [_], [], q => simp only [cE, cDct] at q; cases q
    | [_], _ :: _ :: _, q => simp only [cE, cDct] at q; cases q
    | [_, _], [], q => simp only [cE, cDct] at q; cases q
    | [_, _], [_], q => simp only [cE, cDct] at q; cases q
    | [_, _], _ :: _ :: _ :: _, q => simp only [cE, cDct] at q; cases q
    | _ :: _ :: _ :: _, _, q => simp only [cE, cDct] at q; cases q
  | Tuple es k pos =>
    simp only [cE] at q
    split at q
    · rename_i xs hx
      cases q
      exact plain3 (e_tup (args_ok hf h hx).1) (isT _ _ rfl) (by simp)
    · cases q
  | List es pos =>
    simp only [cE] at q
    split at q
    · rename_i xs hx
      cases q
      exact plain3 (e_lst (args_ok hf h hx).1) (isT _ _ rfl) (by simp)
    · cases q
  | Subscript a b pos =>
    have gen : ∀ {x : Ex}, (if isRev b then (match cE n c .op a with
      | some xa => some (.prim .rev_ (Exs.of [xa]))
      | none => none)
      else if plainE b then match dctName c a with
      | some x => (match cE n c .op b with
        | some xb => some (.kix x xb)
        | none => none)
      | none => match cE n c .op a with
        | some xa => match cE n (c.lk xa) .op b with
          | some xb => some (finX c m (.ix xa xb))
          | none => none
        | none => none
      else none) = some x → Ok3 cA G cl c X (.Subscript a b pos) x := fun {x} q => by
      split at q
      · rename_i hr
        split at q
        · rename_i xa ha
          cases q
          exact plain3 (e_rev hr (hf _ _ _ _ X h ha).1) (isT _ _ rfl) (by simp)
        · cases q
      split at q
      · rename_i hp
        split at q
        · rename_i y hy
          split at q
          · rename_i xb hb
            cases q
            unfold dctName at hy
            split at hy
            · split at hy
              · rename_i hc
                cases hy
                simp only [Bool.and_eq_true] at hc
                exact plain3 (e_kix (gl_ok h hc.1) (h.dct _ hc.2) hp (hf _ _ _ _ X h hb).1) (isT _ _ rfl) (by simp)
              · cases hy
            · cases hy
          · cases q
        split at q
        · rename_i xa ha
          split at q
          · rename_i xb hb
            cases q
            exact plain3 (finX_ok (e_ix h.hu hp (hf _ _ _ _ X h ha).1 (hf _ _ _ _ X (h.lk xa) hb).1 (lk_mono c xa) (root_ok c xa))) (isT _ _ rfl) (by simp)
          · cases q
        · cases q
      · cases q
    cases b with
    | Slice lo hi st p2 =>
      cases st with
      | some st =>
        simp only [cE] at q
        exact gen q
      | none =>
        simp only [cE] at q
        split at q
        · rename_i xa ha
          exact plain3 (slice_ok hf h ha q) (isT _ _ rfl) (by simp)
        · cases q
    | _ => simp only [cE] at q; exact gen q
  | Dict ks vs pos =>
    simp only [cE, cDct] at q
    split at q
    · rename_i kvs hk
      split at q
      · rename_i hz
        cases q
        simp only [Bool.and_eq_true, decide_eq_true_eq] at hz
        exact plain3 (e_dlit hk hz.1.1 hz.1.2 hz.2) (isT _ _ rfl) (by simp)
      · cases q
    · cases q
  | ListComp el gens sc pos =>
    match gens, q with
    | [⟨tgE, it, ifs, 0⟩], q =>
      simp only [cE] at q
      have one : ∀ {m : Md} {x : Ex}, cE.cLc n c m el tgE it ifs sc = some x → Ok3 cA G cl c X (.ListComp el [⟨tgE, it, ifs, 0⟩] sc pos) x := fun {m x} q => by
        match n, hf, ih, q with
        | n + 1, hf, ih, q =>
          simp only [cE.cLc] at q
          split at q
          · rename_i xi hxi
            split at q
            · rename_i tg xc xe ht hc he
              split at q
              · rename_i hb
                cases q
                simp only [Bool.and_eq_true, decide_eq_true_eq] at hb
                match n, hxi, hc, he, ih with
                | n + 1, hxi, hc, he, ih =>
                  obtain ⟨hi, hs⟩ := it_ok (ih n (by omega)) h hxi hb.2
                  exact plain3 (lc_ok (ih (n + 1) (by omega)) h hi hs ht hc he hb.1.1 hb.1.2) (isT _ _ rfl) (by simp)
                | 0, hxi, _, _, _ => cases hxi
              · cases q
            · cases q
          · cases q
        | 0, _, _, q => cases q
      split at q
      · rename_i x' hx
        cases q
        exact one hx
      · exact one q
    | [], q => simp only [cE, cDct] at q; cases q
    | _ :: _ :: _, q => simp only [cE, cDct] at q; cases q
    | [⟨tgE, it, ifs, .ofNat (k + 1)⟩], q => simp only [cE, cDct] at q; cases q
    | [⟨tgE, it, ifs, .negSucc k⟩], q => simp only [cE, cDct] at q; cases q
  | Call fe as kws pos =>
    cases kws with
    | cons _ _ => cases fe <;> (simp only [cE, cDct] at q; cases q)
    | nil =>
    cases fe with
    | Name f pn =>
      simp only [cE] at q
      split at q
      · rename_i hgl
        have hg := gl_ok h hgl
        split at q
        · rename_i id np df hfn
          split at q
          · rename_i hcnt
            split at q
            · rename_i xs hxs
              split at q
              · rename_i hpk
                cases q
                obtain ⟨k1, k2, k3⟩ := args_ok hf h hxs
                obtain ⟨f1, f2, fa, fd, ps, f3, f4, f5, f6⟩ := h.fns f id np df hfn
                obtain ⟨ds, f7, f8⟩ := f6 (as.length + df.length - np)
                have hu : ∀ i ∈ xs.pks, c.lks i = false := fun i hi => by
                  have := List.all_eq_true.mp hpk i hi
                  simpa [Cf.lks] using this
                cases as with
                | nil => simp at hcnt
                | cons e es => exact plain3 (e_call (E := E0) f3 h.room' hg f4 f5 f8 f7 pass0 k1 f1 k2 f2 hu) (isT _ _ rfl) (by simp)
              · cases q
            · cases q
          · cases q
        · split at q
          · rename_i ci hci
            split at q
            · rename_i xs hxs
              split at q
              · rename_i hpk
                cases q
                obtain ⟨k1, k2, k3⟩ := args_ok hf h hxs
                have hu : ∀ i ∈ xs.pks, c.lks i = false := fun i hi => by
                  have := List.all_eq_true.mp hpk i hi
                  simpa [Cf.lks] using this
                obtain ⟨f1, f2, ⟨fi, fa, fd, ps, n', f3, f4, f5, f6, f7⟩ | ⟨f3, f4⟩⟩ := h.cls f ci hci
                · exact plain3 (e_new (E := E0) f4 f5 h.room hg f2 f6 pass0 f3 k1 k3 f1 k2 f7 hu) (isT _ _ rfl) (by simp)
                · cases as with
                  | nil => cases k3 rfl; exact plain3 (e_new0 f4 hg f2 f3 f1) (isT _ _ rfl) (by simp)
                  | cons e es =>
                    refine plain3 ⟨fun pins s σ H Q I w => ?_⟩ (isT _ _ rfl) (by simp)
                    obtain ⟨S, r, p, y, r', st, e1, k⟩ := w
                    obtain ⟨_, rs, r1, ds, h1, h2, ⟨f', self, ds', h3, _⟩ | ⟨h3, rfl, _⟩⟩ := new_inv e1
                    · rw [f3] at h3; cases h3
                    · obtain ⟨y1, ys, rfl⟩ := cArgs_ne hxs
                      obtain ⟨a, b, hab⟩ := evs_cons h1
                      rw [hab] at h2
                      unfold gets at h2
                      split at h2 <;> cases h2
              · cases q
            · cases q
          · exact plain3 (blt_ok hf h hg q) (isT _ _ rfl) (by simp)
      · cases q
    | Attribute o f apos =>
      simp only [cE] at q
      split at q
      · rename_i hcond
        simp only [Bool.and_eq_true] at hcond
        split at q
        · rename_i mm hmm
          split at q
          · rename_i xo ho
            split at q
            · rename_i hlock
              split at q
              · rename_i xs hxs
                split at q
                · rename_i hlen
                  cases q
                  obtain ⟨k1, k2, k3⟩ := args_ok hf (h.lk xo) hxs
                  refine plain3 (e_mut hmm hcond.1 hcond.2 k2 hlen k3 (hf _ _ _ _ X h ho).1 k1 (lk_mono c xo) (root_ok c xo) fun i hi => ?_) (isT _ _ rfl) (by simp)
                  unfold mutRoot at hlock
                  rw [hi] at hlock
                  simpa [Cf.lks] using hlock
                · cases q
              · cases q
            · cases q
          · cases q
        · split at q
          · rename_i hj
            split at q
            · rename_i z k1 p1 a
              split at q
              · rename_i hs
                split at q
                · rename_i xa ha
                  cases q
                  subst hj
                  exact plain3 (e_join hs hcond.2 (hf _ _ _ _ X h ha).1) (isT _ _ rfl) (by simp)
                · cases q
              · cases q
            · cases q
          · split at q
            · rename_i hsp
              split at q
              · rename_i z k1 p1
                split at q
                · rename_i xo ho
                  cases q
                  subst hsp
                  exact plain3 (e_split hcond.1 hcond.2 (hf _ _ _ _ X h ho).1) (isT _ _ rfl) (by simp)
                · cases q
              · cases q
            · split at q
              · split at q
                · rename_i xo ho
                  split at q
                  · rename_i xs hxs
                    split at q
                    · rename_i hpk
                      cases q
                      simp only [Bool.and_eq_true, decide_eq_true_eq] at hpk
                      obtain ⟨k1, k2, k3⟩ := args_ok hf (h.lk xo) hxs
                      obtain ⟨n', m1, m2⟩ := h.meths
                      refine plain3 (e_meth (E := E0) (m2 · f) m1 h.room' pass0 hcond.1 hcond.2 k2 hpk.2 k3 (hf _ _ _ _ X h ho).1 k1 (lk_mono c xo) (root_ok c xo) fun i hi => ?_) (isT _ _ rfl) (by simp)
                      have := List.all_eq_true.mp hpk.1 i hi
                      simpa [Cf.lks] using this
                    · cases q
                  · cases q
                · cases q
              · cases q
      · cases q
    | _ => simp only [cE, cDct] at q; cases q
  | NamedExpr _ _ _ => simp only [cE, cDct] at q; cases q
  | Lambda _ _ _ _ => simp only [cE, cDct] at q; cases q
  | Set _ _ _ => simp only [cE, cDct] at q; cases q
  | SetComp _ _ _ _ => simp only [cE, cDct] at q; cases q
  | DictComp _ _ _ _ _ => simp only [cE, cDct] at q; cases q
  | GeneratorExp _ _ _ _ => simp only [cE, cDct] at q; cases q
  | Await _ _ => simp only [cE, cDct] at q; cases q
  | Yield _ _ => simp only [cE, cDct] at q; cases q
  | YieldFrom _ _ => simp only [cE, cDct] at q; cases q
  | FormattedValue _ _ _ _ => simp only [cE, cDct] at q; cases q
  | JoinedStr _ _ => simp only [cE, cDct] at q; cases q
  | Attribute o f apos =>
    simp only [cE] at q
    split at q
    · rename_i hp
      split at q
      · rename_i xo ho
        cases q
        exact plain3 (finX_ok (e_fld (h.flds · f) hp (hf _ _ _ _ X h ho).1)) (isT _ _ rfl) (by simp)
      · cases q
    · cases q
  | Starred _ _ => simp only [cE, cDct] at q; cases q
  | Slice _ _ _ _ => simp only [cE, cDct] at q; cases q
end
end TK
/-! TK, part 19: statements. Own work. -/
namespace TK
open PySem L2
section
variable {X : Cx} {cA : Nat → Addr} {G : Sig} {cl : Cl} {kr : Nat} {c : Cf} {L Lb Lc Pt : LK}
variable {r r' r1 r2 r3 : Env} {p p' p1 p2 : Nat → List Addr} {S S' S1 S2 H H' H1 H2 : Hp} {F F1 F2 : List Addr} {s s' : St} {Q : VK} {De : Ends}
/-- what an outcome is to reach -/
def OutK (K : PySem.W.Frag) (cA : Nat → Addr) (L Pt : LK) (r : Env) (s : St) (p : Nat → List Addr) (S H : Hp) (D : Ends) : Out → Prop
  | .nx r' => ∀ s' S' H' p', Stt K cA S' H' r' s' p' → EffS L Pt r s p S H r' s' p' [] S' H' → D.nx s' H'
  | .brk r' => ∀ s' S' H' p', Stt K cA S' H' r' s' p' → EffS L Pt r s p S H r' s' p' [] S' H' → D.bk s' H'
  | .ret d r' => ∀ v s' S' H' p' F, Stt K cA S' H' r' s' p' → Rep K cA S' H' d v F → Tmp S' p' F → EffS L Pt r s p S H r' s' p' F S' H' → D.rt v H'
def tO (K : PySem.W.Frag) (cA : Nat → Addr) (L Pt : LK) (g : Env → Option Out) : TS := fun D s H => ∃ S r p o, Stt K cA S H r s p ∧ g r = some o ∧ OutK K cA L Pt r s p S H D o
/-- from a later state -/
theorem OutK.later {K : PySem.W.Frag} {L' : LK} {o : Out} {s1 : St} (k : OutK K cA L Pt r s p S H De o) (e : EffS L Pt r s p S H r1 s1 p1 [] S1 H1) (hl : ∀ i, L i = true → L' i = true) : OutK K cA L' Pt r1 s1 p1 S1 H1 De o := by
  cases o with
  | nx r' => exact fun s' S' H' p' st ef => k s' S' H' p' st (by simpa using e.trans (ef.weak hl))
  | brk r' => exact fun s' S' H' p' st ef => k s' S' H' p' st (by simpa using e.trans (ef.weak hl))
  | ret d r' => exact fun v s' S' H' p' F st rp tm ef => k v s' S' H' p' F st rp tm (by simpa using e.trans (ef.weak hl))
abbrev OkS (X : Cx) (cA : Nat → Addr) (G : Sig) (cl : Cl) (L Pt : LK) (st : Stmt) (x : Sm) : Prop := PS X st (tO X.K cA L Pt fun r => x.ev G cl r)
abbrev OkSs (X : Cx) (cA : Nat → Addr) (G : Sig) (cl : Cl) (L Pt : LK) (st : List Stmt) (x : Sms) : Prop := PSs X st (tO X.K cA L Pt fun r => x.ev G cl r)
theorem tm1_inv {o : Option (R × Env)} {d : D} {e : Env} (h : tm1 o = some (d, e)) : o = some (.tm d, e) := by
  unfold tm1 at h
  split at h
  · cases h; rfl
  · cases h
theorem ss_nil : OkSs X cA G cl L Pt [] .nil := PSs.imp pss_nil fun D s H ⟨S, r, p, o, st, e, k⟩ => by
  cases e
  exact k s S H p st EffS.refl
theorem ss_cons {st : Stmt} {sts : List Stmt} {x : Sm} {xs : Sms} (h1 : OkS X cA G cl L Pt st x) (h2 : OkSs X cA G cl L Pt sts xs) : OkSs X cA G cl L Pt (st :: sts) (.cons x xs) := by
  refine PSs.imp (pss_cons h1 h2) fun D s H ⟨S, r, p, o, st, e, k⟩ => ?_
  simp only [Sms.ev] at e
  split at e
  · rename_i r1 h1
    refine ⟨S, r, p, .nx r1, st, h1, fun s' S' H' p' st' ef => ⟨S', r1, p', o, st', e, k.later ef fun _ z => z⟩⟩
  · rename_i h3
    cases o with
    | nx r' => exact absurd e (by intro z; exact h3 _ z)
    | brk r' => exact ⟨S, r, p, _, st, e, k⟩
    | ret d r' => exact ⟨S, r, p, _, st, e, k⟩
theorem asg_of {tg : Tg} {a : Ex} (hu : ∀ i ∈ tgs tg, L i = false ∧ Pt i = false) (h : tO X.K cA L Pt (fun r => (Sm.asg tg a).ev G cl r) De s H) : tAsg (tX X.K cA L fun r => a.ev G cl r) (gTg X.K tg) De s H := by
  obtain ⟨S, r, p, o, st, e, k⟩ := h
  simp only [Sm.ev] at e
  split at e
  · rename_i d r1 h1
    split at e
    · rename_i r2 h2
      cases e
      exact ⟨S, r, p, _, r1, st, tm1_inv h1, fun v S1 H1 p1 F1 st1 rr ef => bind_ok h2 hu st1 rr.1 rr.2 (EffS.of ef) (fun _ h => h) fun s' p' st' ef' _ => k s' S1 H1 p' st' ef'⟩
    · cases e
  · cases e
theorem s_expr {e : Expr} {x : Ex} {pos : Pos} (h : OkE X cA G cl L e x) (hs : swapsWith e none pos.line X.env = pure false) : OkS X cA G cl L Pt (.Expr e pos) (.expr x) := by
  refine PS.imp (ps_expr h hs) fun D s H ⟨S, r, p, o, st, e, k⟩ => ?_
  simp only [Sm.ev] at e
  split at e
  · rename_i y r1 h1
    cases e
    exact ⟨S, r, p, y, r1, st, h1, fun v S1 H1 p1 F1 st1 rr ef => k s S1 H1 p1 st1 (EffS.of (ef.drop fun a ha => absurd ha (by simp)))⟩
  · cases e
theorem s_if {t : Expr} {a b : List Stmt} {xt : Ex} {xa xb : Sms} {pos : Pos} (ht : OkT X cA G cl L t xt) (ha : OkSs X cA G cl L Pt a xa) (hb : OkSs X cA G cl L Pt b xb) : OkS X cA G cl L Pt (.If t a b pos) (.iff xt xa xb) := by
  refine PS.imp (ps_if ht ha hb) fun D s H ⟨S, r, p, o, st, e, k⟩ => ?_
  simp only [Sm.ev] at e
  split at e
  · rename_i r1 h1
    exact ⟨S, r, p, true, r1, st, h1, fun S1 H1 p1 st1 ef => iteT ⟨S1, r1, p1, o, st1, e, k.later (EffS.of ef) fun _ z => z⟩⟩
  · rename_i r1 h1
    exact ⟨S, r, p, false, r1, st, h1, fun S1 H1 p1 st1 ef => iteF ⟨S1, r1, p1, o, st1, e, k.later (EffS.of ef) fun _ z => z⟩⟩
  · cases e
theorem s_ret {e : Expr} {x : Ex} {pos : Pos} (h : OkE X cA G cl L e x) : OkS X cA G cl L Pt (.Return (some e) pos) (.ret x) := by
  refine PS.imp (ps_ret h) fun D s H ⟨S, r, p, o, st, e, k⟩ => ?_
  simp only [Sm.ev] at e
  split at e
  · rename_i d r1 h1
    cases e
    exact ⟨S, r, p, _, r1, st, tm1_inv h1, fun v S1 H1 p1 F1 st1 rr ef => k v s S1 H1 p1 F1 st1 rr.1 rr.2 (EffS.of ef)⟩
  · cases e
theorem s_retn {pos : Pos} : OkS X cA G cl L Pt (.Return none pos) .retn := by
  refine PS.imp ps_retN fun D s H ⟨S, r, p, o, st, e, k⟩ => ?_
  cases e
  exact k .non s S H p [] st .non Tmp.nil EffS.refl
theorem s_brk {pos : Pos} : OkS X cA G cl L Pt (.Break pos) .brk := by
  refine PS.imp ps_break fun D s H ⟨S, r, p, o, st, e, k⟩ => ?_
  cases e
  exact k s S H p st EffS.refl
theorem s_pass {pos : Pos} : OkS X cA G cl L Pt (.Pass pos) .pass := by
  refine PS.imp ps_pass fun D s H ⟨S, r, p, o, st, e, k⟩ => ?_
  cases e
  exact k s S H p st EffS.refl
theorem s_while {t : Expr} {b : List Stmt} {xt : Ex} {xb : Sms} {pos : Pos} (hp : PassesOwn (model X.prog X.w) X.A X.env X.xe) (ht : OkT X cA G cl L t xt) (hb : OkSs X cA G cl L Pt b xb) : OkS X cA G cl L Pt (.While t b [] pos) (.whil xt xb) := by
  refine PS.imp (ps_while hp ht hb) fun D s H ⟨S, r, p, o, st, e, k⟩ => ?_
  simp only [Sm.ev] at e
  refine ⟨fun m s1 H1 => ∃ S1 r1 p1, Stt X.K cA S1 H1 r1 s1 p1 ∧ EffS L Pt r s p S H r1 s1 p1 [] S1 H1 ∧ whileL (fun e => bool1 (xt.ev G cl e)) (fun e => xb.ev G cl e) m r1 = some o, ⟨_, S, r, p, st, EffS.refl, e⟩, fun m s1 H1 ⟨S1, r1, p1, st1, ef1, e1⟩ => ?_⟩
  cases m with
  | zero => cases e1
  | succ m =>
  simp only [whileL] at e1
  split at e1
  · rename_i r2 h2
    cases e1
    refine ⟨S1, r1, p1, false, r2, st1, h2, fun S2 H2 p2 st2 ef2 => iteF (k s1 S2 H2 p2 st2 ?_)⟩
    simpa using ef1.trans (EffS.of (Pt := Pt) (s := s1) ef2)
  · rename_i r2 h2
    refine ⟨S1, r1, p1, true, r2, st1, h2, fun S2 H2 p2 st2 ef2 => ?_⟩
    have e12 : EffS L Pt r s p S H r2 s1 p2 [] S2 H2 := ef1.trans (EffS.of (Pt := Pt) (s := s1) ef2)
    refine iteT ⟨fun s3 H3 => ∃ S3 r3 p3, Stt X.K cA S3 H3 r3 s3 p3 ∧ EffS L Pt r s p S H r3 s3 p3 [] S3 H3 ∧ whileL (fun e => bool1 (xt.ev G cl e)) (fun e => xb.ev G cl e) m r3 = some o, fun s3 H3 h => ⟨m, Nat.lt_succ_self m, h⟩, ?_⟩
    split at e1
    · rename_i r3 h3
      exact ⟨S2, r2, p2, .nx r3, st2, h3, fun s3 S3 H3 p3 st3 ef3 => ⟨S3, r3, p3, st3, by simpa using e12.trans ef3, e1⟩⟩
    · rename_i r3 h3
      cases e1
      exact ⟨S2, r2, p2, .brk r3, st2, h3, fun s3 S3 H3 p3 st3 ef3 => k s3 S3 H3 p3 st3 (by simpa using e12.trans ef3)⟩
    · rename_i h3 h4
      refine ⟨S2, r2, p2, o, st2, e1, ?_⟩
      cases o with
      | nx r' => exact absurd e1 (h3 r')
      | brk r' => exact absurd e1 (h4 r')
      | ret d r' => exact fun v s' S' H' p' F st' rp tm ef => k v s' S' H' p' F st' rp tm (by simpa using e12.trans ef)
  · cases e1
theorem s_for {tgE it : Expr} {b : List Stmt} {tg : Tg} {xi : It} {xb : Sms} {pos : Pos} (hp : PassesOwn (model X.prog X.w) X.A X.env X.xe) (hc : X.calm = true) (hi : PI X tgE it (tI X.K cA L Lb fun r => xi.ev G cl r)) (hg : PG X tgE (gTg X.K tg)) (hb : OkSs X cA G cl Lb Pt b xb)
    (hs : ∀ x, foldedSetIterable it X.env x = pure x) (hl : ∀ i, L i = true → Lb i = true) (hu : ∀ i ∈ tgs tg, Lb i = false ∧ Pt i = false) : OkS X cA G cl L Pt (.For tgE it b [] pos) (.for_ tg xi xb) := by
  refine PS.imp (ps_for hp hc hi hg hb hs) fun D s H ⟨S, r, p, o, st, e, k⟩ => ?_
  simp only [Sm.ev] at e
  split at e
  · rename_i xs r1 h1
    refine ⟨S, r, p, xs, r1, st, h1, fun rs gds vsr S1 H1 p1 F0 J hgd hroot st1 rr1 ef1 ⟨Gd, Y, wk, wok⟩ => ?_⟩
    have rootSn : ∀ q P d, R.sn q P d ∈ rs → Lb q = true := fun q P d z => hroot q (.inr ⟨P, d, z⟩)
    let body : TK.D → Env → Option Out := fun x e => match bindTg e x tg with
      | some e => xb.ev G cl e
      | none => none
    have e0 : EffS L Pt r s p S H r1 s p1 [] S1 H1 := EffS.of (ef1.drop fun a ha => absurd ha (by simp))
    refine for_it wk (fun i s2 Hc => ∃ S2 r2 p2 F2, Stt X.K cA S2 Hc r2 s2 p2 ∧ RReps X.K cA S2 Hc r2 s2 p2 rs vsr F2 ∧ gets r2 rs = some gds ∧ EffS Lb Pt r1 s p1 S1 H1 r2 s2 p2 [] S2 Hc ∧ forL body (xs.drop i) r2 = some o)
      ⟨S1, r1, p1, F0, st1, rr1, hgd, EffS.refl, e⟩ (fun i s2 Hc _ ⟨S2, r2, p2, F2, st2, rr2, hg2, _, _⟩ => (wok S2 Hc r2 s2 p2 F2 st2 rr2 hg2).1) (fun i x s2 Hc H' hi ⟨S2, r2, p2, F2, st2, rr2, hg2, ef2, ev2⟩ y => ?_) (fun s2 Hc ⟨S2, r2, p2, F2, st2, rr2, hg2, ef2, ev2⟩ => ?_)
    · obtain ⟨_, wy⟩ := wok S2 Hc r2 s2 p2 F2 st2 rr2 hg2
      obtain ⟨d, S', hd, hss, hh, cap, sub', rpx⟩ := wy i x H' y
      have edrop : xs.drop i = d :: xs.drop (i + 1) := by
        rw [List.drop_eq_getElem_cons hi]
        congr 1
        rw [List.getElem?_eq_getElem hi] at hd
        exact Option.some.inj hd
      rw [edrop] at ev2
      have sta := st2.ext hss hh cap sub'
      have ea : Eff Lb r2 p2 S2 Hc r2 p2 [] S' H' := Eff.ext hss hh cap fun a ha => absurd ha (by simp)
      obtain ⟨ra, hra⟩ : ∃ ra, bindTg r2 d tg = some ra := by
        cases q : bindTg r2 d tg with
        | some ra => exact ⟨ra, rfl⟩
        | none => simp [forL, body, q] at ev2
      refine bind_ok (F0 := []) (r0 := r2) (p0 := p2) (S0 := S2) (H0 := Hc) (s0 := s2) hra hu sta rpx Tmp.nil (EffS.of ea) (by simp) fun s' p' stb efb ho => ?_
      obtain ⟨ob, hob⟩ : ∃ ob, xb.ev G cl ra = some ob := by
        cases q : xb.ev G cl ra with
        | some ob => exact ⟨ob, rfl⟩
        | none => simp [forL, body, hra, q] at ev2
      refine ⟨S', ra, p', ob, stb, hob, ?_⟩
      have fin : ∀ {rc : Env} {s3 : St} {S3 H3 : Hp} {p3 : Nat → List Addr} {F3 : List Addr}, EffS Lb Pt ra s' p' S' H' rc s3 p3 F3 S3 H3 → EffS Lb Pt r1 s p1 S1 H1 rc s3 p3 F3 S3 H3 ∧ EffS Lb Pt r2 s2 p2 S2 Hc rc s3 p3 F3 S3 H3 := fun ef3 => by
        have q : EffS Lb Pt r2 s2 p2 S2 Hc _ _ _ _ _ _ := efb.trans ef3
        exact ⟨by simpa using ef2.trans q, by simpa using q⟩
      cases ob with
      | nx rc =>
        have ev3 : forL body (xs.drop (i + 1)) rc = some o := by simpa [forL, body, hra, hob] using ev2
        intro s3 S3 H3 p3 st3 ef3
        obtain ⟨f1, f2⟩ := fin ef3
        obtain ⟨c1, _⟩ := RReps.carry st2 rr2 f2.ef rootSn
        exact ⟨S3, rc, p3, F2, st3, c1.move (fun q z => ⟨rfl, f2.lk q (.inl (hroot q z))⟩) (fun _ _ h => h), gets_move hg2 fun q z => (f2.ef.same q (hroot q (.inl z))).1, f1, ev3⟩
      | brk rc =>
        have ev3 : o = .nx rc := by simpa [forL, body, hra, hob] using ev2.symm
        subst ev3
        intro s3 S3 H3 p3 st3 ef3
        exact k s3 S3 H3 p3 st3 (by simpa using e0.trans ((fin ef3).1.weak hl))
      | ret dr rc =>
        have ev3 : o = .ret dr rc := by simpa [forL, body, hra, hob] using ev2.symm
        subst ev3
        intro v s3 S3 H3 p3 F3 st3 rp tm ef3
        exact k v s3 S3 H3 p3 F3 st3 rp tm (by simpa using e0.trans ((fin ef3).1.weak hl))
    · have en : xs.drop xs.length = [] := by simp
      rw [en] at ev2
      cases ev2
      exact k s2 S2 Hc p2 st2 (by simpa using e0.trans (ef2.weak hl))
  · cases e
end
end TK
/-! TK, part 20: every statement that is taken over. Own work. -/
namespace TK
open PySem L2
def Cf.pts (c : Cf) : LK := fun i => c.prot.contains i
section
variable {X : Cx} {cA : Nat → Addr} {G : Sig} {cl : Cl} {kr : Nat} {c : Cf} {L Lb Lc Pt : LK}
variable {r r' r1 r2 r3 : Env} {p p' p1 p2 : Nat → List Addr} {S S' S1 S2 H H' H1 H2 : Hp} {F F1 F2 : List Addr} {s s' : St} {Q : VK}
theorem tgOne_lk {e : Expr} {i : Nat} (q : cTgOne c e = some i) : c.lks i = false ∧ c.pts i = false := by
  unfold cTgOne at q
  split at q
  · split at q
    · split at q
      · cases q
      · rename_i hl
        split at q
        · cases q
          simp only [Bool.or_eq_true, not_or] at hl
          exact ⟨by simpa [Cf.lks] using hl.1, by simpa [Cf.pts] using hl.2⟩
        · cases q
    · cases q
  · cases q
theorem tgs_lk : ∀ {es : List Expr} {is : List Nat}, cTgs c es = some is → ∀ i ∈ is, c.lks i = false ∧ c.pts i = false
  | [], is, q => by cases q; simp
  | e :: es, is, q => by
    simp only [cTgs] at q
    split at q
    · rename_i i is' h1 h2
      split at q
      · cases q
      · cases q
        exact fun j hj => (List.mem_cons.mp hj).elim (fun z => by rw [z]; exact tgOne_lk h1) (tgs_lk h2 j)
    · cases q
theorem tg_lk {e : Expr} {tg : Tg} (q : cTg c e = some tg) : ∀ i ∈ tgs tg, c.lks i = false ∧ c.pts i = false := by
  unfold cTg at q
  split at q
  · obtain ⟨is, h1, rfl⟩ := Option.map_eq_some_iff.mp q
    exact tgs_lk h1
  · obtain ⟨i, h1, rfl⟩ := Option.map_eq_some_iff.mp q
    intro j hj
    have : j = i := by simpa [tgs] using hj
    rw [this]; exact tgOne_lk h1
theorem noSwap {e : Expr} {t : Option Expr} {l : Nat} {env : PySem.Env} (h : isComp e = false) : swapsWith e t l env = pure false := by
  cases e <;> first | rfl | (simp [isComp] at h)
theorem s_asg {tgE e : Expr} {tg : Tg} {a : Ex} {pos : Pos} (he : OkE X cA G cl L e a) (hg : PG X tgE (gTg X.K tg)) (hs : swapsWithSole [tgE] e pos.line X.env = pure false) (hw : swappedStores [tgE] e X.env = pure none) (h1 : (assignEach [tgE] X.env).map (·.2) = [assign tgE X.env])
    (hu : ∀ i ∈ tgs tg, L i = false ∧ Pt i = false) : OkS X cA G cl L Pt (.Assign [tgE] e pos) (.asg tg a) := PS.imp (ps_asg he hg hs hw h1) fun D s H h => asg_of hu h
theorem sub_inv {a b v : Ex} {o : Out} (h : (Sm.sub a b v).ev G cl r = some o) : ∃ d r1 ra r2 rb r3 k r4, v.ev G cl r = some (.tm d, r1) ∧ a.ev G cl r1 = some (ra, r2) ∧ b.ev G cl r2 = some (rb, r3) ∧ rb.get r3 = some (.int k) ∧ putR r3 ra k d = some r4 ∧ o = .nx r4 := by
  simp only [Sm.ev] at h
  split at h
  · rename_i d r1 h1
    split at h
    · rename_i ra r2 h2
      split at h
      · rename_i rb r3 h3
        split at h
        · rename_i k h4
          split at h
          · rename_i r4 h5
            cases h
            exact ⟨d, r1, ra, r2, rb, r3, k, r4, tm1_inv h1, h2, h3, h4, h5, rfl⟩
          · cases h
        · cases h
      · cases h
    · cases h
  · cases h
/-- an item is written -/
theorem Reps.put {K : PySem.W.Frag} : ∀ {xs : List D} {vs : List V} {F : List Addr} {j : Nat}, Reps K cA S H xs vs F → j < xs.length → ∃ A Fj B, F = A ++ Fj ++ B ∧ ∀ x' w' F', Rep K cA S H x' w' F' → Reps K cA S H (xs.set j x') (vs.set j w') (A ++ F' ++ B)
  | [], _, _, _, _, e => by simp at e
  | y :: ys, _, _, 0, h, _ => by
    cases h with
    | @cons _ v F1 _ vs F2 rp rs => exact ⟨[], F1, F2, by simp, fun x' w' F' rp' => .cons (F := F') rp' rs⟩
  | y :: ys, _, _, j + 1, h, e => by
    cases h with
    | @cons _ v F1 _ vs F2 rp rs =>
      obtain ⟨A, Fj, B, k1, k2⟩ := Reps.put (j := j) rs (by simpa using e)
      refine ⟨F1 ++ A, Fj, B, by rw [k1]; simp, fun x' w' F' rp' => ?_⟩
      have q : Reps K cA S H (y :: ys.set j x') (v :: vs.set j w') (F1 ++ (A ++ F' ++ B)) := .cons rp (k2 x' w' F' rp')
      rw [show F1 ++ A ++ F' ++ B = F1 ++ (A ++ F' ++ B) by simp]
      exact q
theorem s_sub {a b e : Expr} {xa xb xe : Ex} {tpos pos : Pos} (hp : plainE b = true) (hc : isComp e = false) (he : OkE X cA G cl L e xe) (ha : OkE X cA G cl L a xa) (hb : OkE X cA G cl Lb b xb) (hl : ∀ i, L i = true → Lb i = true) (root : RootOk G cl xa Lb) (hroot : ∀ i, rootX xa = some i → L i = false) :
    OkS X cA G cl L Pt (.Assign [.Subscript a b tpos] e pos) (.sub xa xb xe) := by
  have hg : PG X (.Subscript a b tpos) (gSub (tX X.K cA L fun r => xa.ev G cl r) (tX X.K cA Lb fun r => xb.ev G cl r) rSetL) := pg_sub ha hb set_list (by intro v; cases b <;> first | rfl | (simp [plainE] at hp))
  refine PS.imp (ps_asg he hg (by simp only [swapsWithSole]; exact noSwap hc) rfl rfl) fun D s H ⟨S, r, p, o, st, e, k⟩ => ?_
  obtain ⟨d, r1, ra, r2, rb, r3, kk, r4, h1, h2, h3, h4, h5, rfl⟩ := sub_inv e
  have hro := rootX_ok xa r1 ra r2 h2
  refine ⟨S, r, p, _, r1, st, h1, fun v S1 H1 p1 F1 st1 rr1 ef1 => ⟨S1, r1, p1, ra, r2, st1, h2, fun x S2 H2 p2 F2 st2 rr2 ef2 => ⟨S2, r2, p2, rb, r3, st2, h3, fun y S3 H3 p3 F3 st3 rr3 ef3 => ?_⟩⟩⟩
  obtain ⟨W, rk⟩ := RRep.get st3 rr3 h4
  cases rep_int rk
  have ef3' := ef3.weak hl
  obtain ⟨c1, c2⟩ := RRep.carry st1 rr1 (ef2.trans ef3') fun q P d e => by cases e
  obtain ⟨g3, dj3⟩ := RRep.carry st2 rr2 ef3 fun q P d e => root _ _ q P d (by rw [h2, e])
  unfold putR at h5
  split at h5
  · rename_i u r5 h6
    cases h5
    refine wr_of (r' := r4) (T := fun x => rSetL x (.int kk) v H3 fun H4 => D.nx s H4) (Q := fun _ H4 => D.nx s H4) (ra := ra) (F1 := F2) (F := F1) (fun i z => by
      rcases z with z | ⟨P, d0, z⟩
      · exact hroot i (by rw [hro.1 i z]; rfl)
      · exact hroot i (hro.2 i P d0 z)) st3 g3 c1.2 (fun a ha hb => c2 a hb (List.mem_append_left _ ha)) (r0 := r) (p0 := p) (S0 := S) (H0 := H) (((ef1.trans ef2).trans ef3').drop fun a ha => List.mem_append_left _ ((List.mem_append.mp ha).elim (fun z => List.mem_append_right _ z) fun z => List.mem_append_left _ z)) h6 (fun xs ys d2 vs F0 a0 rx nd0 ho hf kq => ?_) fun v' S' H' p' F' st' rr' ef' => k s S' H' p' st' (EffS.of (ef'.drop fun a ha => absurd ha (by simp)))
    split at hf
    · rename_i j hj
      cases hf
      have hlen := Reps.length rx
      have hjl : j < xs.length := by
        have := (ixN_seq (show ixN xs.length kk = some j from hj)).2.1
        exact this
      obtain ⟨A, Fj, B, k1, k2⟩ := Reps.put rx hjl
      have nd : ((A ++ Fj ++ B) ++ F1).Nodup := by rw [← k1]; exact nd0
      have nd1 : (A ++ F1 ++ B).Nodup := by
        have q1 : (A ++ (Fj ++ (B ++ F1))).Nodup := by simpa using nd
        have q2 : List.Sublist (A ++ (B ++ F1)) (A ++ (Fj ++ (B ++ F1))) := (List.Sublist.refl A).append (List.sublist_append_right _ _)
        have q3 := q1.sublist q2
        have q4 : (A ++ (F1 ++ B)).Perm (A ++ (B ++ F1)) := List.Perm.append_left A List.perm_append_comm
        rw [List.append_assoc]
        exact q4.nodup_iff.mpr q3
      refine ⟨a0, vs, kk, j, rfl, rfl, ho, by rw [← hlen]; exact hj, kq .non (vs.set j v) (A ++ F1 ++ B) [] (k2 d v F1 c1.1) .non (by simpa using nd1) fun a ha => ?_⟩
      rw [k1]
      simp only [List.append_nil, List.mem_append] at ha ⊢
      rcases ha with (z | z) | z
      · exact .inl (.inl (.inl z))
      · exact .inr z
      · exact .inl (.inr z)
    · cases hf
  · cases h5
end
end TK
/-! TK, part 20b: a field is written; what is never come to. Own work. -/
namespace TK
open PySem L2
section
variable {K : PySem.W.Frag} {X : Cx} {cA : Nat → Addr} {G : Sig} {cl : Cl} {L Lb Lc Pt : LK}
variable {r r' r1 r2 r3 : Env} {p p' p1 p2 : Nat → List Addr} {S S' S1 S2 H H' H1 H2 : Hp} {F F1 F2 : List Addr} {s s' : St} {Q : VK}
theorem s_nev {st : Stmt} : OkS X cA G cl L Pt st .nev := by
  refine PS.imp ps_never fun D s H ⟨S, r, p, o, st, e, k⟩ => ?_
  cases e
theorem putF_zip : ∀ {ns : List Str} {vs : List V} {n : Str} {y : V}, ns.length = vs.length → putF n y (ns.zip vs) = match ns.findIdx? (· = n) with
    | some j => ns.zip (vs.set j y)
    | none => (ns ++ [n]).zip (vs ++ [y])
  | [], [], n, y, _ => rfl
  | [], _ :: _, _, _, h => by simp at h
  | _ :: _, [], _, _, h => by simp at h
  | m :: ns, v :: vs, n, y, h => by
    have ih := putF_zip (n := n) (y := y) (show ns.length = vs.length by simpa using h)
    rw [List.zip_cons_cons, List.findIdx?_cons]
    show (if m = n then (m, y) :: ns.zip vs else (m, v) :: putF n y (ns.zip vs)) = _
    by_cases z : m = n
    · simp [z]
    · simp only [if_neg z, decide_eq_true_eq]
      rw [ih]
      cases ns.findIdx? (· = n) with
      | none => rfl
      | some j => rfl
theorem fldPut_rep {ns : List Str} {xs : List D} {vs : List V} {n : Str} {d : D} {y : V} (hl : ns.length = vs.length) (rs : Reps K cA S H xs vs F) (rd : Rep K cA S H d y F1) :
    ∃ vs' F', putF n y (ns.zip vs) = (fldPut n d ns xs).1.zip vs' ∧ (fldPut n d ns xs).1.length = vs'.length ∧ Reps K cA S H (fldPut n d ns xs).2 vs' F' ∧ ((F ++ F1).Nodup → F'.Nodup) ∧ ∀ a ∈ F', a ∈ F ++ F1 := by
  rw [putF_zip hl]
  unfold fldPut
  cases hj : ns.findIdx? (· = n) with
  | none =>
    refine ⟨vs ++ [y], F ++ F1, rfl, by simp [hl], ?_, fun h => h, fun a h => h⟩
    have := Reps.append rs (.cons rd .nil)
    simpa using this
  | some j =>
    have jl : j < xs.length := by
      rw [Reps.length rs, ← hl]
      exact (List.findIdx?_eq_some_iff_getElem.mp hj).1
    obtain ⟨A, Fj, B, rfl, k2⟩ := Reps.put rs jl
    refine ⟨vs.set j y, A ++ F1 ++ B, rfl, by simp [hl], k2 d y F1 rd, fun nd => ?_, fun a ha => ?_⟩
    · have q1 : (A ++ (Fj ++ (B ++ F1))).Nodup := by simpa using nd
      have q2 : List.Sublist (A ++ (B ++ F1)) (A ++ (Fj ++ (B ++ F1))) := (List.Sublist.refl A).append (List.sublist_append_right _ _)
      have q3 := q1.sublist q2
      have q4 : (A ++ (F1 ++ B)).Perm (A ++ (B ++ F1)) := List.Perm.append_left A List.perm_append_comm
      rw [List.append_assoc]
      exact q4.nodup_iff.mpr q3
    · simp only [List.mem_append] at ha ⊢
      rcases ha with (z | z) | z
      · exact .inl (.inl (.inl z))
      · exact .inr z
      · exact .inl (.inr z)
theorem sfld_inv {a v : Ex} {n : Str} {o : Out} (h : (Sm.sfld a n v).ev G cl r = some o) : ∃ d r1 i r2 c ns xs, v.ev G cl r = some (.tm d, r1) ∧ a.ev G cl r1 = some (.sl i, r2) ∧ gt r2 i = some (.nd (.ins c ns) true xs) ∧ G.flds c n = true ∧ ns.length < 1000 ∧
    o = .nx (r2.set i (some (.nd (.ins c (fldPut n d ns xs).1) true (fldPut n d ns xs).2))) := by
  simp only [Sm.ev] at h
  split at h
  · rename_i d r1 h1
    split at h
    · rename_i ra r2 h2
      split at h
      · rename_i r3 h3
        cases h
        unfold wrF at h3
        split at h3
        · rename_i i
          split at h3
          · rename_i c ns xs hg
            split at h3
            · rename_i hc
              cases h3
              simp only [Bool.and_eq_true, decide_eq_true_eq] at hc
              exact ⟨d, r1, i, r2, c, ns, xs, tm1_inv h1, h2, hg, hc.1, hc.2, rfl⟩
            · cases h3
          · cases h3
        · cases h3
      · cases h
    · cases h
  · cases h
theorem s_sfld {a e : Expr} {n : Str} {xa xe : Ex} {tpos pos : Pos} (hC : ∀ ci, G.flds ci n = true → Cls X.K (cA ci) ∧ NoAttr X.K (cA ci) n) (hc : isComp e = false) (he : OkE X cA G cl L e xe) (ha : OkE X cA G cl L a xa) (hroot : ∀ i, rootX xa = some i → L i = false) :
    OkS X cA G cl L Pt (.Assign [.Attribute a n tpos] e pos) (.sfld xa n xe) := by
  refine PS.imp (ps_fld ha he (noSwap hc)) fun D s H ⟨S, r, p, o, st, e, k⟩ => ?_
  obtain ⟨d, r1, i, r2, c, ns, xs, h1, h2, hg, hfl, hlen, rfl⟩ := sfld_inv e
  have hi : L i = false := hroot i (by rw [(rootX_ok xa r1 _ r2 h2).1 i rfl]; rfl)
  refine ⟨S, r, p, _, r1, st, h1, fun v S1 H1 p1 F1 st1 rr1 ef1 => ⟨S1, r1, p1, .sl i, r2, st1, h2, fun x S2 H2 p2 F2 st2 rr2 ef2 => ?_⟩⟩
  obtain ⟨c1, _⟩ := RRep.carry st1 rr1 ef2 fun q P d e => by cases e
  obtain ⟨rd, td⟩ := c1
  obtain ⟨k1, k2⟩ := hC c hfl
  obtain ⟨v', hv, rp⟩ := st2.rep i _ hg
  rw [rr2.1] at hv; cases hv
  obtain ⟨PF, hp⟩ : ∃ PF, p2 i = PF := ⟨_, rfl⟩
  rw [hp] at rp
  cases rp with
  | @ow _ _ a0 vs o F0 n0 ho q rx =>
  obtain ⟨hcs, hl, dx, rfl⟩ := q
  have nd1 := st2.nd i
  rw [hp] at nd1
  have nd0 : (F0 ++ F1).Nodup := List.nodup_append.mpr ⟨(List.nodup_cons.mp nd1).2, td.nd, fun a ha b hb e => td.dj i a (by rw [hp]; exact List.mem_cons_of_mem _ ha) (e ▸ hb)⟩
  have na0 : ∀ a ∈ F0 ++ F1, a ≠ a0 := fun a ha z => by
    subst z
    rcases List.mem_append.mp ha with z | z
    · exact (List.nodup_cons.mp nd1).1 z
    · exact td.dj i a (by rw [hp]; exact List.mem_cons_self) z
  have own0 : S2 a0 = none := st2.own i a0 (by rw [hp]; exact List.mem_cons_self)
  obtain ⟨vs', F', e1, e2, ry, e4, e5⟩ := fldPut_rep (n := n) hl rx rd
  have inP : ∀ a ∈ F0 ++ F1, a ∈ p2 i ∨ a ∈ F1 := fun a ha => (List.mem_append.mp ha).elim (fun z => .inl (by rw [hp]; exact List.mem_cons_of_mem _ z)) .inr
  refine ⟨a0, _, dx, _, rfl, ho, k1, k2, by rw [List.length_zip]; omega, ?_⟩
  rw [e1]
  have stx : StX X.K cA [i] S2 (upd H2 a0 (.ins (cA c) dx ((fldPut n d ns xs).1.zip vs'))) r2 s p2 := (st2.x [i]).ext (fun _ _ e => e) (fun j a hj ha => upd_ne fun z => st2.dj j i a (fun q => hj (by rw [q]; exact List.mem_cons_self)) ha (by rw [hp, z]; exact List.mem_cons_self)) (fun j a _ ha => st2.own j a ha) fun a o e => by
    rw [upd_ne (ne_of_none e own0)]; exact st2.sub a o e
  have stn := stx.put (T := []) (i := i) (F := a0 :: F') (d := .nd (.ins c (fldPut n d ns xs).1) true (fldPut n d ns xs).2) (v := .ref a0) (s' := s) (fun j _ h2 h3 => h2 (by simpa using h3)) (gt_lt hg) rfl rr2.1 (fun _ _ => rfl)
    (.ow nofun upd_same ⟨hcs, e2, dx, rfl⟩ (Reps.mono (fun _ _ e => e) _ ry fun a ha => upd_ne (na0 a (e5 a ha))))
    (List.nodup_cons.mpr ⟨fun z => na0 a0 (e5 a0 z) rfl, e4 nd0⟩)
    (fun j _ hj a ha hb => by
      rcases List.mem_cons.mp hb with z | z
      · exact st2.dj j i a hj ha (by rw [hp, z]; exact List.mem_cons_self)
      · rcases inP a (e5 a z) with z | z
        · exact st2.dj j i a hj ha z
        · exact td.dj j a ha z)
    (fun a ha => by
      rcases List.mem_cons.mp ha with z | z
      · rw [z]; exact own0
      · rcases inP a (e5 a z) with z | z
        · exact st2.own i a z
        · exact td.own a z)
  have efx : Eff L r p S H r2 p2 F1 S2 H2 := (ef1.trans ef2).drop fun a ha => List.mem_append_left _ ha
  have z := efx.trans2 (S2 := S2) (H2 := upd H2 a0 (.ins (cA c) dx ((fldPut n d ns xs).1.zip vs'))) (r2 := r2.set i (some (.nd (.ins c (fldPut n d ns xs).1) true (fldPut n d ns xs).2))) (p2 := setF p2 i (a0 :: F')) (F2 := []) (fun _ _ e => e) (fun a o e1 e2 _ => ?_) (fun a o e1 => .inl e1) (fun j hj => ?_) (fun j a hj ha => ?_) (fun a ha => absurd ha (by simp)) (List.length_set ..)
  · exact k s S2 _ _ stn.st (EffS.of z)
  · rw [upd_ne fun z => e2 i hi (by rw [hp, z]; exact List.mem_cons_self)]; exact e1
  · have z : j ≠ i := fun z => by subst z; rw [hi] at hj; cases hj
    exact ⟨by rw [gt_set (gt_lt hg), if_neg z], setF_ne z⟩
  · by_cases z : j = i
    · subst z
      rw [setF_same] at ha
      rcases List.mem_cons.mp ha with z | z
      · exact .inr (.inl ⟨j, hi, by rw [hp, z]; exact List.mem_cons_self⟩)
      · rcases inP a (e5 a z) with z | z
        · exact .inr (.inl ⟨j, hi, z⟩)
        · exact .inr (.inr z)
    · rw [setF_ne z] at ha
      exact .inr (.inl ⟨j, hj, ha⟩)
end
end TK
/-! TK, part 21: every statement that is taken over, by induction. Own work. -/
namespace TK
open PySem L2
structure COkS (cA : Nat → Addr) (G : Sig) (cl : Cl) (kr : Nat) (c : Cf) (X : Cx) : Prop where
  e : COk cA G cl kr c X
  scope : X.env.scope = c.sc
  kind : c.sc.kind = .function
  own : PassesOwn (model X.prog X.w) X.A X.env X.xe
section
variable {X : Cx} {cA : Nat → Addr} {G : Sig} {cl : Cl} {kr : Nat} {c : Cf}
theorem COkS.addLk (h : COkS cA G cl kr c X) (x : It) : COkS cA G cl kr (addLk c x) X := by
  obtain ⟨l, e⟩ := addLk_eq c x
  rw [e]
  exact ⟨h.e.lockd l, h.scope, h.kind, h.own⟩
theorem addLk_pts (c : Cf) (x : It) : (addLk c x).pts = c.pts := by
  obtain ⟨l, e⟩ := addLk_eq c x
  rw [e]; rfl
theorem swap_eq (h : COkS cA G cl kr c X) {el : Expr} {gs : List Comprehension} {sc : Scope} {pos px : Pos} {x : Str} {l : Nat} : swapsWith (.ListComp el gs sc pos) (some (.Name x px)) l X.env = pure (swapB c x px sc pos) := by
  have h1 : (X.env.blockKind == .function) = true := by
    unfold Env.blockKind
    rw [h.scope, h.kind]
    rfl
  have h2 : (X.env.kindOf x == some .local) = decide (c.sc.names.lookup x = some .local) := by
    unfold Env.kindOf
    rw [h.scope]
    by_cases q : c.sc.names.lookup x = some .local
    · rw [q]; rfl
    · rw [decide_eq_false q]
      exact beq_eq_false_iff_ne.mpr q
  unfold swapB
  rw [← h2]
  show (pure (X.env.blockKind == .function && X.env.kindOf x == some .local && px.line == pos.line && !(sc.names.any fun (n, k) => n == x && (k == .local || k == .cell))) : Sem Bool) = _
  rw [h1, Bool.true_and]
theorem lc_parts {n : Nat} (h : COk cA G cl kr c X) {m : Md} {el : Expr} {gs : List Comprehension} {sc : Scope} {pos : Pos} {x : Ex} (q : cE n c m (.ListComp el gs sc pos) = some x) :
    ∃ tgE it ifs tg xi xc xe own Lb, gs = [⟨tgE, it, ifs, 0⟩] ∧ x = .lc tg xi xc xe ∧ PI X tgE it (tI X.K cA c.lks Lb fun r => xi.ev G cl r) ∧ BlkOk X.N X.env.scope sc own ∧ own.map (·.2) = tgs tg ∧
      (∀ (s : Shared) (H : Hp) (C : Addr) (l : List (Str × Addr)) (fp : List Addr), PG (X.blk s H sc (compEnvC sc l C X.env) fp) tgE (gTg X.K tg)) ∧ (∀ (s : Shared) (H : Hp) (C : Addr) (l : List (Str × Addr)) (fp : List Addr), PTs (X.blk s H sc (compEnvC sc l C X.env) fp) ifs (tT X.K cA Lb (tb1 G cl xc))) ∧
      (∀ (s : Shared) (H : Hp) (C : Addr) (l : List (Str × Addr)) (fp : List Addr), PE (X.blk s H sc (compEnvC sc l C X.env) fp) el (tX X.K cA Lb fun r => xe.ev G cl r)) ∧ (∀ x, foldedSetIterable it X.env x = pure x) ∧ (∀ i, c.lks i = true → Lb i = true) ∧ ∀ i ∈ tgs tg, Lb i = false := by
  cases n with
  | zero => cases q
  | succ n =>
  match gs, q with
  | [⟨tgE, it, ifs, 0⟩], q =>
    simp only [cE] at q
    have one : ∀ {m : Md} {x : Ex}, cE.cLc n c m el tgE it ifs sc = some x → ∃ n' xi tg xc xe, x = .lc tg xi xc xe ∧ cE.cIt (n' + 1) c m it = some xi ∧ cTg { addLk c xi with sc := sc } tgE = some tg ∧ cCond (cE (n' + 1)) { addLk c xi with sc := sc } ifs = some xc ∧ cE (n' + 1) { addLk c xi with sc := sc } .val el = some xe ∧
        blkC c.N c.sc sc (ownOf { addLk c xi with sc := sc } tgE) = true ∧ (ownOf { addLk c xi with sc := sc } tgE).map (·.2) = tgs tg ∧ enOk tgE xi = true := fun {m x} q => by
      match n, q with
      | 0, q => cases q
      | 1, q => simp only [cE.cLc] at q; simp only [cE.cIt] at q; cases q
      | n + 2, q =>
        simp only [cE.cLc] at q
        split at q
        · rename_i xi hxi
          split at q
          · rename_i tg xc xe ht hc he
            split at q
            · rename_i hb
              cases q
              simp only [Bool.and_eq_true, decide_eq_true_eq] at hb
              exact ⟨n, xi, tg, xc, xe, rfl, hxi, ht, hc, he, hb.1.1, hb.1.2, hb.2⟩
            · cases q
          · cases q
        · cases q
    have fin : ∀ {m : Md} {x : Ex}, cE.cLc n c m el tgE it ifs sc = some x → _ := fun {m x} q => one q
    have ex : ∃ m', cE.cLc n c m' el tgE it ifs sc = some x := by
      split at q
      · rename_i x' hx
        cases q
        exact ⟨_, hx⟩
      · exact ⟨_, q⟩
    obtain ⟨m', hx⟩ := ex
    obtain ⟨n', xi, tg, xc, xe, rfl, h1, ht, hc, he, hb, ho, hen⟩ := one hx
    obtain ⟨hi, hs⟩ := it_ok (tgE := tgE) (G := G) (cl := cl) (cE_ok n') h h1 hen
    obtain ⟨l, hal⟩ := addLk_eq c xi
    have hb2 : ∀ (s : Shared) (H : Hp) (C : Addr) (ls : List (Str × Addr)) (fp : List Addr), COk cA G cl kr { addLk c xi with sc := sc } (X.blk s H sc (compEnvC sc ls C X.env) fp) := fun s H C ls fp => by
      rw [hal]
      exact (COk.blk (own := []) h s H C ls fp).lockd l
    exact ⟨tgE, it, ifs, tg, xi, xc, xe, _, (addLk c xi).lks, rfl, rfl, hi, blk_ok h hb, ho, fun s H C ls fp => (tg_ok (hb2 s H C ls fp) ht).1, fun s H C ls fp => pts_cond (cE_ok _) (hb2 s H C ls fp) hc, fun s H C ls fp => (cE_ok _ _ _ _ _ _ (hb2 s H C ls fp) he).1, hs, addLk_mono c xi, fun i hi => (tg_lk ht i hi).1⟩
  | [], q => simp only [cE, cDct] at q; cases q
  | _ :: _ :: _, q => simp only [cE, cDct] at q; cases q
  | [⟨tgE, it, ifs, .ofNat (k + 1)⟩], q => simp only [cE, cDct] at q; cases q
  | [⟨tgE, it, ifs, .negSucc k⟩], q => simp only [cE, cDct] at q; cases q
theorem s_asgLc {n : Nat} (h : COkS cA G cl kr c X) {x : Str} {px pos spos : Pos} {el : Expr} {gs : List Comprehension} {sc : Scope} {tg : Tg} {xe : Ex} (ht : cTg c (.Name x px) = some tg) (he : cE n c .val (.ListComp el gs sc pos) = some xe) :
    OkS X cA G cl c.lks c.pts (.Assign [.Name x px] (.ListComp el gs sc pos) spos) (.asg tg xe) := by
  have k1 := tg_ok h.e ht
  have k2 := tg_lk ht
  cases hsw : swapB c x px sc pos with
  | false => exact s_asg (cE_ok n _ _ _ _ _ h.e he).1 k1.1 (by simp only [swapsWithSole]; rw [swap_eq h, hsw]) rfl rfl k2
  | true =>
    obtain ⟨tgE, it, ifs, tg2, xi, xc, xel, own, Lb, rfl, rfl, hi, ok, hown, hg, htt, hel, hs, hl, hu⟩ := lc_parts h.e he
    have hx : ∃ i, tg = .nm i ∧ X.N[i]? = some x ∧ X.env.scope.names.lookup x = some .local := by
      unfold cTg at ht
      split at ht
      · rename_i z; cases z
      · obtain ⟨i, h1, rfl⟩ := Option.map_eq_some_iff.mp ht
        obtain ⟨⟨x', pos', e, h2⟩, _, _⟩ := tgOne_ok h.e h1
        cases e
        unfold swapB at hsw
        simp only [Bool.and_eq_true, decide_eq_true_eq] at hsw
        exact ⟨i, rfl, (slot_ok h.e h2).1, by rw [h.scope]; exact hsw.1.1⟩
    obtain ⟨i, rfl, hy, hyl⟩ := hx
    refine PS.imp (ps_setLc h.e.calm (by rw [h.e.N]; exact h.e.nd) hy hyl (by rw [swap_eq h, hsw]) hi ok hg htt hel hs) fun D s H w => ?_
    rw [hown]
    exact lc_read hl hu (asg_of k2 w)
theorem cSs_ok {f : Cf → Stmt → Option Sm} (hf : ∀ c s x X, COkS cA G cl kr c X → f c s = some x → OkS X cA G cl c.lks c.pts s x) : ∀ {ss : List Stmt} {xs : Sms}, COkS cA G cl kr c X → cSs f c ss = some xs → OkSs X cA G cl c.lks c.pts ss xs
  | [], xs, h, q => by cases q; exact ss_nil
  | s :: ss, xs, h, q => by
    simp only [cSs] at q
    split at q
    · rename_i x ys h1 h2
      cases q
      exact ss_cons (hf c s x X h h1) (cSs_ok hf h h2)
    · cases q
theorem cS_ok : ∀ n, ∀ c s x X, COkS cA G cl kr c X → cS n c s = some x → OkS X cA G cl c.lks c.pts s x := by
  intro n
  induction n with
  | zero => intro c s x X h q; cases q
  | succ n ih =>
  intro c s x X h q
  have E := fun {c m e x} (h : COk cA G cl kr c X) (q : cE n c m e = some x) => cE_ok (cA := cA) (G := G) (cl := cl) (kr := kr) n c m e x X h q
  cases s with
  | Assign tgs' e pos =>
    have plain : ∀ {tgE : Expr} {tg : Tg} {xe : Ex}, isComp e = false → (isTup e = false ∨ ∃ x p, tgE = .Name x p) → cTg c tgE = some tg → cE n c .val e = some xe → OkS X cA G cl c.lks c.pts (.Assign [tgE] e pos) (.asg tg xe) := fun {tgE tg xe} hc ht h1 h2 => by
      refine s_asg (E h.e h2).1 (tg_ok h.e h1).1 (by simp only [swapsWithSole]; exact noSwap hc) ?_ ?_ (tg_lk h1)
      · rcases ht with ht | ⟨x, p, rfl⟩
        · cases tgE <;> cases e <;> first | rfl | (simp [isTup] at ht)
        · rfl
      · cases tgE <;> first | rfl | (simp [cTg, cTgOne] at h1)
    match tgs', q with
    | [], q => simp only [cS] at q; cases q
    | _ :: _ :: _, q => simp only [cS] at q; cases q
    | [tgE], q =>
      have gen : ∀ {x : Sm}, (if !isComp e && !isTup e then match cTg c tgE, cE n c .val e with
          | some tg, some xe => some (Sm.asg tg xe)
          | _, _ => none
          else (match tgE with
            | .Name x px => if !isComp e then match cTg c (.Name x px), cE n c .val e with
              | some tg, some xe => some (.asg tg xe)
              | _, _ => none
              else none
            | _ => none)) = some x → OkS X cA G cl c.lks c.pts (.Assign [tgE] e pos) x := fun {x} q => by
        split at q
        · rename_i hc
          simp only [Bool.and_eq_true, Bool.not_eq_true'] at hc
          split at q
          · rename_i tg xe h1 h2
            cases q
            exact plain hc.1 (.inl hc.2) h1 h2
          · cases q
        · split at q
          · rename_i x px
            split at q
            · rename_i hc
              split at q
              · rename_i tg xe h1 h2
                cases q
                exact plain (by simpa using hc) (.inr ⟨_, _, rfl⟩) h1 h2
              · cases q
            · cases q
          · cases q
      cases tgE with
      | Subscript a b tp =>
        simp only [cS] at q
        split at q
        · rename_i hp
          simp only [Bool.and_eq_true, Bool.not_eq_true'] at hp
          split at q
          · rename_i xe xa h1 h2
            split at q
            · rename_i hr
              split at q
              · rename_i xb h3
                cases q
                have h4 := cE_ok (cA := cA) (G := G) (cl := cl) (kr := kr) n _ _ _ _ X (h.e.lk xa) h3
                exact s_sub hp.1 hp.2 (E h.e h1).1 (E h.e h2).1 h4.1 (lk_mono c xa) (root_ok c xa) fun i hi => by
                  unfold mutRoot at hr
                  rw [hi] at hr
                  simpa [Cf.lks] using hr
              · cases q
            · cases q
          · cases q
        · cases q
      | Attribute a f tp =>
        simp only [cS] at q
        split at q
        · rename_i hp
          simp only [Bool.and_eq_true, Bool.not_eq_true'] at hp
          split at q
          · rename_i xe xa h1 h2
            split at q
            · rename_i hr
              cases q
              exact s_sfld (h.e.flds · f) hp.2 (E h.e h1).1 (E h.e h2).1 fun i hi => by
                unfold mutRoot at hr
                rw [hi] at hr
                simpa [Cf.lks] using hr
            · cases q
          · cases q
        · cases q
      | Name y py =>
        cases e with
        | ListComp el gs sc p2 =>
          simp only [cS] at q
          split at q
          · rename_i tg xe h1 h2
            cases q
            exact s_asgLc h h1 h2
          · cases q
        | _ => simp only [cS] at q; exact gen q
      | _ => simp only [cS] at q; exact gen q
  | Expr e pos =>
    simp only [cS] at q
    split at q
    · cases q
    · rename_i hc
      obtain ⟨xe, h1, rfl⟩ := Option.map_eq_some_iff.mp q
      exact s_expr (E h.e h1).1 (noSwap (by simpa using hc))
  | If t a b pos =>
    simp only [cS] at q
    split at q
    · rename_i ht
      split at q
      · rename_i xt xa xb h1 h2 h3
        cases q
        exact s_if ((E h.e h1).2.1 ht) (cSs_ok ih h h2) (cSs_ok ih h h3)
      · cases q
    · cases q
  | For tgE it body orelse pos =>
    cases orelse with
    | cons _ _ => simp only [cS] at q; cases q
    | nil =>
    simp only [cS] at q
    cases hx : cItB n c it with
    | none => rw [hx] at q; cases q
    | some xi =>
      rw [hx] at q
      simp only at q
      split at q
      · rename_i xi' tg xb e1 h2 h3
        cases e1
        split at q
        case isFalse => cases q
        rename_i hen
        cases q
        have ex : ∃ m, cE.cIt n c m it = some xi := by
          unfold cItB at hx
          split at hx
          · rename_i h5; cases hx; exact ⟨_, h5⟩
          · exact ⟨_, hx⟩
        obtain ⟨m, h5⟩ := ex
        cases n with
        | zero => cases h5
        | succ n =>
        obtain ⟨hi, hs⟩ := it_ok (tgE := tgE) (G := G) (cl := cl) (cE_ok n) h.e h5 hen
        have h6 := h.addLk xi
        have k2 := tg_lk h2
        have k3 := cSs_ok ih h6 h3
        rw [addLk_pts] at k3 k2
        exact s_for h.own h.e.calm hi (tg_ok h6.e h2).1 k3 hs (addLk_mono c xi) k2
      · cases q
  | While t body orelse pos =>
    cases orelse with
    | cons _ _ => simp only [cS] at q; cases q
    | nil =>
    simp only [cS] at q
    split at q
    · rename_i ht
      split at q
      · rename_i xt xb h1 h2
        cases q
        exact s_while h.own ((E h.e h1).2.1 ht) (cSs_ok ih h h2)
      · cases q
    · cases q
  | Return v pos =>
    cases v with
    | none => simp only [cS] at q; cases q; exact s_retn
    | some e =>
      simp only [cS] at q
      split at q
      · rename_i xm hm
        cases q
        unfold mvX at hm
        split at hm
        case h_2 => cases hm
        split at hm
        case h_2 => cases hm
        rename_i i hi
        split at hm
        case isFalse => cases hm
        rename_i hc
        cases hm
        obtain ⟨k1, k2, k3, k4⟩ := slot_ok h.e hi
        simp only [Bool.and_eq_true, Bool.not_eq_true'] at hc
        exact s_ret (e_mv k1 k2 hc.2 k3 k4)
      · obtain ⟨xe, h1, rfl⟩ := Option.map_eq_some_iff.mp q
        exact s_ret (E h.e h1).1
  | Break pos => simp only [cS] at q; cases q; exact s_brk
  | Pass pos => simp only [cS] at q; cases q; exact s_pass
  | Raise _ _ _ => simp only [cS] at q; cases q; exact s_nev
  | _ => simp only [cS] at q; cases q
end
end TK
/-! TK, part 22: defs. Own work. -/
namespace TK
open PySem L2
section
variable {K : PySem.W.Frag} {cA : Nat → Addr} {S S' H H' : Hp} {F : List Addr}
/-- the footprint, thing by thing -/
theorem Reps.fs : ∀ {ds : List D} {vs : List V} {F : List Addr}, Reps K cA S H ds vs F → ∃ Fs : List (List Addr), Fs.length = ds.length ∧ F = Fs.flatten ∧ ∀ j d v, ds[j]? = some d → vs[j]? = some v → Rep K cA S H d v (Fs.getD j [])
  | [], _, _, h => by cases h; exact ⟨[], rfl, rfl, by simp⟩
  | d :: ds, _, _, h => by
    cases h with
    | @cons _ v F1 _ vs F2 r rs =>
      obtain ⟨Fs, h1, rfl, h3⟩ := Reps.fs rs
      refine ⟨F1 :: Fs, by simp [h1], by simp, fun j d' v' e1 e2 => ?_⟩
      cases j with
      | zero => simp at e1 e2; subst e1; subst e2; simpa using r
      | succ j => simpa using h3 j d' v' (by simpa using e1) (by simpa using e2)
theorem gd_out {Fs : List (List Addr)} {j : Nat} (h : Fs.length ≤ j) : Fs.getD j [] = [] := by simp [List.getD, h]
theorem gd_in {Fs : List (List Addr)} {j : Nat} (h : j < Fs.length) : Fs.getD j [] = Fs[j] := by simp [List.getD, h]
theorem flat_mem {Fs : List (List Addr)} {a : Addr} {j : Nat} (h : a ∈ Fs.getD j []) : a ∈ Fs.flatten := by
  have hj : j < Fs.length := by
    by_cases z : j < Fs.length
    · exact z
    · rw [gd_out (by omega)] at h; cases h
  rw [gd_in hj] at h
  exact List.mem_flatten.mpr ⟨_, List.getElem_mem hj, h⟩
theorem flat_nd : ∀ {Fs : List (List Addr)}, Fs.flatten.Nodup → (∀ j, (Fs.getD j []).Nodup) ∧ ∀ i j a, i ≠ j → a ∈ Fs.getD i [] → a ∈ Fs.getD j [] → False
  | [], _ => by simp
  | F :: Fs, h => by
    rw [List.flatten_cons] at h
    obtain ⟨h1, h2, h3⟩ := List.nodup_append.mp h
    obtain ⟨k1, k2⟩ := flat_nd h2
    refine ⟨fun j => by cases j with
      | zero => simpa using h1
      | succ j => simpa using k1 j, fun i j a hij ha hb => ?_⟩
    cases i with
    | zero =>
      cases j with
      | zero => exact hij rfl
      | succ j => exact h3 a (by simpa using ha) a (flat_mem (j := j) (by simpa using hb)) rfl
    | succ i =>
      cases j with
      | zero => exact h3 a (by simpa using hb) a (flat_mem (j := i) (by simpa using ha)) rfl
      | succ j => exact k2 i j a (by omega) (by simpa using ha) (by simpa using hb)
theorem start_get {N : List Str} {vs : List V} {i : Nat} {v : V} (h : vs[i]? = some v) : (L2.start N vs)[i]? = some (some v) := by
  unfold L2.start
  have hi : i < vs.length := (List.getElem?_eq_some_iff.mp h).1
  rw [List.getElem?_append_left (by simpa using hi), List.getElem?_map, h]
  rfl
/-- the slots at the entry -/
theorem gt_start {fn : Fn} {ds : List D} {i : Nat} : gt (startE fn ds) i = (ds[i]?).map fun d => if fn.prot.contains i then d else d.fr := by
  unfold gt startE
  by_cases hi : i < ds.length
  · rw [List.getElem?_append_left (by simpa using hi), List.getElem?_mapIdx, List.getElem?_eq_getElem hi]
    rfl
  · rw [List.getElem?_append_right (by simpa using hi), List.getElem?_replicate, List.getElem?_eq_none (by omega)]
    by_cases z : i - (List.mapIdx (fun i d => some (if fn.prot.contains i = true then d else d.fr)) ds).length < fn.ns - fn.np
    · rw [if_pos z]; rfl
    · rw [if_neg z]; rfl
theorem endDs_get {fn : Fn} {e : Env} : ∀ {ds : List D} {i : Nat} {ds' : List D}, endDs fn e i ds = some ds' → ds'.length = ds.length ∧ ∀ j d, ds[j]? = some d → ∃ d', ds'[j]? = some d' ∧ (if fn.prot.contains (i + j) then gt e (i + j) = some d' else d' = d.fr)
  | [], i, ds', h => by cases h; simp
  | d :: ds, i, ds', h => by
    unfold endDs at h
    split at h
    · rename_i d' ds2 h1 h2
      cases h
      obtain ⟨k1, k2⟩ := endDs_get h2
      refine ⟨by simp [k1], fun j x e => ?_⟩
      cases j with
      | zero =>
        simp at e; subst e
        refine ⟨d', rfl, ?_⟩
        rw [Nat.add_zero]
        split at h1
        · rename_i hp; rw [if_pos hp]; exact h1
        · rename_i hp; rw [if_neg hp]; cases h1; rfl
      | succ j =>
        obtain ⟨d2, e1, e2⟩ := k2 j x (by simpa using e)
        exact ⟨d2, by simpa using e1, by rw [show i + (j + 1) = i + 1 + j by omega]; exact e2⟩
    · cases h
theorem Reps.of_fs : ∀ {ds : List D} {vs : List V} {f : Nat → List Addr} {i : Nat}, ds.length = vs.length → (∀ j d v, ds[j]? = some d → vs[j]? = some v → Rep K cA S H d v (f (i + j))) → Reps K cA S H ds vs (((List.range' i ds.length).map f).flatten)
  | [], [], _, _, _, _ => .nil
  | [], _ :: _, _, _, h, _ => by simp at h
  | _ :: _, [], _, _, h, _ => by simp at h
  | d :: ds, v :: vs, f, i, h, g => by
    rw [List.length_cons, List.range'_succ, List.map_cons, List.flatten_cons]
    exact .cons (g 0 d v rfl rfl) (Reps.of_fs (by simpa using h) fun j d' v' e1 e2 => by
      rw [show i + 1 + j = i + (j + 1) by omega]; exact g (j + 1) d' v' (by simpa using e1) (by simpa using e2))
theorem flat_nodup {f : Nat → List Addr} (h1 : ∀ j, (f j).Nodup) (h2 : ∀ i j a, i ≠ j → a ∈ f i → a ∈ f j → False) : ∀ (n i : Nat), (((List.range' i n).map f).flatten).Nodup
  | 0, i => by simp
  | n + 1, i => by
    rw [List.range'_succ, List.map_cons, List.flatten_cons]
    refine List.nodup_append.mpr ⟨h1 i, flat_nodup h1 h2 n (i + 1), fun a ha b hb e => ?_⟩
    subst e
    obtain ⟨l, hl, hb⟩ := List.mem_flatten.mp hb
    obtain ⟨j, hj, rfl⟩ := List.mem_map.mp hl
    have := List.mem_range'_1.mp hj
    exact h2 i j a (by omega) ha hb
end
/-- the built-ins' names -/
def bltNames : List Str := ["len", "list", "tuple", "int", "str", "min", "max", "isinstance", "bool", "dict", "range", "sorted", "all", "set", "enumerate"]
theorem bltB_names {x : Str} (h : bltB x = true) : x ∈ bltNames := by
  by_cases h1 : x = "len"
  · rw [h1]; decide
  by_cases h2 : x = "list"
  · rw [h2]; decide
  by_cases h3 : x = "tuple"
  · rw [h3]; decide
  by_cases h4 : x = "int"
  · rw [h4]; decide
  by_cases h5 : x = "str"
  · rw [h5]; decide
  by_cases h6 : x = "min"
  · rw [h6]; decide
  by_cases h7 : x = "max"
  · rw [h7]; decide
  by_cases h8 : x = "isinstance"
  · rw [h8]; decide
  by_cases h9 : x = "bool"
  · rw [h9]; decide
  by_cases h10 : x = "dict"
  · rw [h10]; decide
  by_cases h11 : x = "range"
  · rw [h11]; decide
  by_cases h12 : x = "sorted"
  · rw [h12]; decide
  by_cases h13 : x = "all"
  · rw [h13]; decide
  by_cases h14 : x = "set"
  · rw [h14]; decide
  by_cases h15 : x = "enumerate"
  · rw [h15]; decide
  · simp [bltB, bltOf, tyOf, h1, h2, h3, h4, h5, h6, h7, h8, h9, h10, h11, h12, h13, h14, h15] at h
/-- a def of the text: its name, its full name -/
structure Ent where
  x : Str
  qn : Str
  st : Stmt
  ps : List Str
  N : List Str
  prot : List Nat
  df : List Cn
  mv : List Nat := []
/-- what the text's names are -/
structure Tb where
  tab : List (Str × Nat × Nat × List Cn)
  cls : List (Str × Nat)
  mths : List Str
  isk : List Nat
  cons : List Str
  dcts : List Str := []
def Ent.cf (T : Tb) (e : Ent) : Cf := { N := e.N, sc := defScope e.st, fns := T.tab, cls := T.cls, cons := T.cons, lock := [], prot := e.prot, mths := T.mths, isk := T.isk, dcts := T.dcts, mv := e.mv }
def okN (N : List Str) : Bool := N.all fun x => !(x == ("__debug__" : Str)) && !(x == ("__classdict__" : Str))
/-- what is looked at in the text -/
def Ent.okB (e : Ent) (fn : Fn) : Bool :=
  okN e.N && decide (fn.np = e.ps.length) && decide (fn.ns = e.N.length) && decide (e.ps.length ≤ e.N.length) && (e.prot.all fun i => decide (i < e.ps.length))
structure Ent.Ok (T : Tb) (fuel : Nat) (e : Ent) (fn : Fn) : Prop where
  b : e.okB fn = true
  prot : fn.prot = e.prot
  body : cSs (cS fuel) (e.cf T) (defBody e.st) = some fn.body
  sc : FnScope e.N e.ps (defScope e.st)
/-- a def as it stands -/
structure EntAt (K : PySem.W.Frag) (e : Ent) (fa : Addr) (fd : FuncData) : Prop where
  fun_ : ∃ dvs, FunD K e.x e.qn (defArgs e.st) (defBody e.st) (defScope e.st) dvs [] fa fd
  binds : ∀ j, ∃ ds, Vals ((e.df.drop j).map Cn.v) ds ∧ Binds K fd e.ps ds
/-- what a law's text must be like -/
structure Env0k (w : World) (K : PySem.W.Frag) (mg : Str → Option Value) (cA : Nat → Addr) (adr : Nat → Addr) (G : Sig) (fns : List Fn) (E : List Ent) (T : Tb) (fuel : Nat) : Prop where
  stat : ∀ (i : Nat) (e : Ent), E[i]? = some e → ∃ fn, fns[i]? = some fn ∧ e.Ok T fuel fn
  dyn : ∀ (i : Nat) (e : Ent), E[i]? = some e → ∃ fd, EntAt K e (adr i) fd
  tab : ∀ x id np df, T.tab.lookup x = some (id, np, df) → (x == ("__debug__" : Str)) = false ∧ mg x = some (.ref (adr id)) ∧ ∃ e, E[id]? = some e ∧ np = e.ps.length ∧ df = e.df
  blt : ∀ x, bltB x = true → mg x = none
  cons : ∀ x, T.cons.contains x = true → ∃ v u d, mg x = some u ∧ RelV v u ∧ G.consts.lookup x = some d ∧ (∀ S H, Rep K cA S H d v []) ∧ (x == ("__debug__" : Str)) = false
  isk : ∀ ci ∈ T.isk, IsK K (cA ci)
  flds : ∀ ci n, G.flds ci n = true → Cls K (cA ci) ∧ NoAttr K (cA ci) n
  meths : ∀ ci m f, G.meths ci m = some f → Cls K (cA ci) ∧ Meth K (cA ci) m (adr f) ∧ ∃ e, E[f]? = some e
  cls : ∀ x ci, T.cls.lookup x = some ci → (x == ("__debug__" : Str)) = false ∧ mg x = some (.ref (cA ci)) ∧ ((∃ f e, G.init ci = some f ∧ E[f]? = some e ∧ Mk K (cA ci) (adr f)) ∨ (G.init ci = none ∧ Mk0 K (cA ci)))
  dct : ∀ x, T.dcts.contains x = true → ∃ a, mg x = some (.ref a) ∧ (x == ("__debug__" : Str)) = false ∧ ∀ kv, G.dcts.lookup x = some kv → ∀ z d, kv.lookup z = some d → ∃ v, KDct K w a z v ∧ ∀ S H, Rep K cA S H d v []
theorem evF_len {w : World} {K : PySem.W.Frag} {mg : Str → Option Value} {cA : Nat → Addr} {adr : Nat → Addr} {G : Sig} {fns : List Fn} {E : List Ent} {T : Tb} {fuel : Nat} (V : Env0k w K mg cA adr G fns E T fuel) {k i : Nat} {e : Ent} (hE : E[i]? = some e) {ds : List D} {r : D × List D} (q : evF G fns k i ds = some r) :
    ds.length = e.ps.length := by
  obtain ⟨fn2, hfn2, ok2⟩ := V.stat i e hE
  have hb2 := ok2.b
  simp only [Ent.okB, Bool.and_eq_true, decide_eq_true_eq] at hb2
  cases k with
  | zero => cases q
  | succ k =>
    unfold evF at q
    rw [hfn2] at q
    simp only at q
    split at q
    · rename_i z; rw [z]; exact hb2.1.1.1.2
    · cases q
theorem fns_ok {P : Program} {w : World} {K : PySem.W.Frag} {mg : Str → Option Value} {base : Heap} {cA : Nat → Addr} {adr : Nat → Addr} {G : Sig} {fns : List Fn} {E : List Ent} {T : Tb} {fuel : Nat} (V : Env0k w K mg cA adr G fns E T fuel) :
    ∀ (k i : Nat) (e : Ent) (fd : FuncData), E[i]? = some e → EntAt K e (adr i) fd → FnOk P w K mg base CX0 (2 * k) (adr i) fd e.ps (spC K cA (evF G fns k) i e.ps.length) := by
  intro k
  induction k with
  | zero =>
    intro i e fd _ _
    exact ⟨fun vs H Q E ⟨S, ds, FF, d, ds', _, _, _, _, h, _⟩ => (by cases h), fun A outer s H args us vs Q E _ _ _ _ ⟨S, ds, FF, d, ds', _, _, _, _, h, _⟩ => (by cases h)⟩
  | succ k ih =>
  intro i e fd hE hat
  obtain ⟨fn, hfn, ok⟩ := V.stat i e hE
  obtain ⟨dvs, hF⟩ := hat.fun_
  have hb := ok.b
  simp only [Ent.okB, Bool.and_eq_true, decide_eq_true_eq, List.all_eq_true] at hb
  obtain ⟨⟨⟨⟨b1, b2⟩, b3⟩, b4⟩, b5⟩ := hb
  rw [show 2 * (k + 1) = (2 * k + 1) + 1 by omega]
  refine hF.ok ok.sc (fun vs H Q E ⟨S, ds, FF, d, ds', _, rs, _, _, _, hl, _⟩ => by rw [← Reps.length rs, hl]) fun cdv A outer s H vs Q E0' hr ⟨S, ds, FF, d, ds', sub, rs, nd, own, hev, hl, post⟩ => ?_
  have hlv : vs.length = e.ps.length := by rw [← Reps.length rs, hl]
  -- the body keeps its reading
  have hcok : COkS cA G (evF G fns k) (2 * k) (e.cf T) (cxOf CX0 P w K mg base e.N e.qn (defScope e.st) (adr i) cdv A outer s H E0') := by
    refine ⟨⟨rfl, ok.sc.nd, fun x hx => ?_, fun x k h _ => h, fun x h => .inl h, fun _ _ => rfl, rfl, hr, V.blt, V.cons, fun x id np df h => ?_, V.isk, V.flds, ?_, fun x ci h => ?_, V.dct⟩, rfl, ok.sc.kind, passes_of rfl⟩
    · have := List.all_eq_true.mp b1 x hx
      simpa using this
    · obtain ⟨h1, h3, e2, h2, rfl, rfl⟩ := V.tab x id np df h
      obtain ⟨fd2, hat2⟩ := V.dyn id e2 h2
      obtain ⟨dvs2, hF2⟩ := hat2.fun_
      exact ⟨h1, fun ds d ds' q => evF_len V h2 q, adr id, fd2, e2.ps, ih id e2 fd2 h2 hat2, h3, hF2.kp, hat2.binds⟩
    · refine ⟨fun f => match fns[f]? with | some fn => fn.np | none => 0, fun f ds d ds' q => ?_, fun ci m f q => ?_⟩
      · cases k with
        | zero => cases q
        | succ k =>
          unfold evF at q
          split at q
          · cases q
          · rename_i fn2 h2
            split at q
            · rename_i z; simp only [h2]; exact z
            · cases q
      · obtain ⟨h1, h2, e2, h3⟩ := V.meths ci m f q
        obtain ⟨fd2, hat2⟩ := V.dyn f e2 h3
        obtain ⟨ds2, f7, f8⟩ := hat2.binds e2.df.length
        have hd : ds2 = [] := by
          rw [List.drop_length] at f7
          cases f7; rfl
        subst hd
        obtain ⟨fn2, hfn2, ok2⟩ := V.stat f e2 h3
        have hb2 := ok2.b
        simp only [Ent.okB, Bool.and_eq_true, decide_eq_true_eq] at hb2
        have := ih f e2 fd2 h3 hat2
        simp only [hfn2]
        rw [hb2.1.1.1.2]
        exact ⟨adr f, fd2, e2.ps, h1, h2, this, f8⟩
    · obtain ⟨h1, h2, ⟨f, e2, h3, h4, h5⟩ | ⟨h3, h4⟩⟩ := V.cls x ci h
      · obtain ⟨fd2, hat2⟩ := V.dyn f e2 h4
        obtain ⟨ds2, f7, f8⟩ := hat2.binds e2.df.length
        have hd : ds2 = [] := by
          rw [List.drop_length] at f7
          cases f7; rfl
        subst hd
        exact ⟨h1, h2, .inl ⟨f, adr f, fd2, e2.ps, e2.ps.length, h3, h5, ih f e2 fd2 h4 hat2, f8, fun ds d ds' q => evF_len V h4 q⟩⟩
      · exact ⟨h1, h2, .inr ⟨h3, h4⟩⟩
  have hps := cSs_ok (cS_ok fuel) hcok ok.body
  refine ⟨_, hps, ?_⟩
  -- the state at the entry
  unfold evF at hev
  rw [hfn] at hev
  simp only at hev
  split at hev
  case isFalse => cases hev
  obtain ⟨Fs, f1, rfl, f3⟩ := Reps.fs rs
  obtain ⟨n1, n2⟩ := flat_nd nd
  let p0 : Nat → List Addr := fun j => if fn.prot.contains j then Fs.getD j [] else []
  let FU : List Addr := ((List.range Fs.length).filter fun j => !fn.prot.contains j).flatMap fun j => Fs.getD j []
  have memFU : ∀ a, a ∈ FU → ∃ j, fn.prot.contains j = false ∧ a ∈ Fs.getD j [] := fun a ha => by
    obtain ⟨j, hj, ha⟩ := List.mem_flatMap.mp ha
    have := (List.mem_filter.mp hj).2
    exact ⟨j, by simpa using this, ha⟩
  have inFU : ∀ a j, fn.prot.contains j = false → a ∈ Fs.getD j [] → a ∈ FU := fun a j hj ha => by
    have hjl : j < Fs.length := by
      by_cases z : j < Fs.length
      · exact z
      · rw [gd_out (by omega)] at ha; cases ha
    refine List.mem_flatMap.mpr ⟨j, List.mem_filter.mpr ⟨List.mem_range.mpr hjl, ?_⟩, ha⟩
    rw [hj]; rfl
  have FUsub : ∀ a, a ∈ FU → a ∈ Fs.flatten := fun a ha => by
    obtain ⟨j, _, h⟩ := memFU a ha
    exact flat_mem h
  have p0sub : ∀ j a, a ∈ p0 j → fn.prot.contains j = true ∧ a ∈ Fs.getD j [] := fun j a ha => by
    have ha : a ∈ (if fn.prot.contains j = true then Fs.getD j [] else []) := ha
    by_cases z : fn.prot.contains j = true
    · rw [if_pos z] at ha; exact ⟨z, ha⟩
    · rw [if_neg z] at ha; cases ha
  have s0 : Sub S (frzS S H FU) := fun a o e => by
    unfold frzS
    by_cases z : a ∈ FU
    · rw [own a (FUsub a z)] at e; cases e
    · rw [if_neg z]; exact e
  have s1 : Sub (frzS S H FU) H := fun a o e => by
    unfold frzS at e
    by_cases z : a ∈ FU
    · rw [if_pos z] at e; exact e
    · rw [if_neg z] at e; exact sub a o e
  have fzat : ∀ a, a ∈ FU → frzS S H FU a = H a := fun a z => by unfold frzS; rw [if_pos z]
  have ent : ∀ j d, ds[j]? = some d → ∃ v, vs[j]? = some v ∧ Rep K cA S H d v (Fs.getD j []) := fun j d e => by
    have hj : j < vs.length := by rw [hlv, ← hl]; exact (List.getElem?_eq_some_iff.mp e).1
    exact ⟨vs[j], by simp [hj], f3 j d _ e (by simp [hj])⟩
  have st : Stt K cA (frzS S H FU) H (startE fn ds) (L2.start e.N vs) p0 := by
    refine ⟨s1, ?_, fun j d he => ?_, fun j he => ?_, fun j => ?_, fun i j a hij ha hb => ?_, fun j a ha => ?_⟩
    · unfold startE L2.start
      simp only [List.length_append, List.length_mapIdx, List.length_map, List.length_replicate]
      rw [hlv, hl]
      omega
    · rw [gt_start] at he
      obtain ⟨d0, h1, rfl⟩ := Option.map_eq_some_iff.mp he
      obtain ⟨v, hv, rp⟩ := ent j d0 h1
      refine ⟨v, start_get hv, ?_⟩
      by_cases z : fn.prot.contains j = true
      · rw [if_pos z]
        have : p0 j = Fs.getD j [] := by simp only [p0]; rw [if_pos z]
        rw [this]
        exact Rep.mono s0 d0 rp fun a _ => rfl
      · rw [if_neg z]
        have : p0 j = [] := by simp only [p0]; rw [if_neg z]
        rw [this]
        exact Rep.frz s0 d0 rp fun a ha => fzat a (inFU a j (by simpa using z) ha)
    · rw [gt_start, Option.map_eq_none_iff] at he
      have hj : ds.length ≤ j := List.getElem?_eq_none_iff.mp he
      simp only [p0]
      split
      · rw [gd_out (by omega)]
      · rfl
    · simp only [p0]
      split
      · exact n1 j
      · exact List.nodup_nil
    · exact n2 i j a hij (p0sub i a ha).2 (p0sub j a hb).2
    · obtain ⟨z, ha⟩ := p0sub j a ha
      unfold frzS
      rw [if_neg, own a (flat_mem ha)]
      intro q
      obtain ⟨i, h1, h2⟩ := memFU a q
      exact n2 i j a (fun q => by rw [q, z] at h1; cases h1) h2 ha
  -- what comes back
  have fin : ∀ {e' : Env} {d : D} {ds' : List D}, endDs fn e' 0 ds = some ds' → (∀ v S' H' Fd F', Sub S S' → Sub S' H' → Rep K cA S' H' d v Fd → Reps K cA S' H' ds' vs F' → (Fd ++ F').Nodup → (∀ a ∈ Fd ++ F', S' a = none ∧ (H a = none ∨ a ∈ Fs.flatten)) → (∀ a o, H a = some o → a ∉ Fs.flatten → H' a = some o) →
      (∀ a o, S' a = some o → S a = some o ∨ H a = none ∨ a ∈ Fs.flatten) → Q v H') → ∀ v s' S' H' p' F, Stt K cA S' H' e' s' p' → Rep K cA S' H' d v F → Tmp S' p' F →
      EffS (e.cf T).lks (e.cf T).pts (startE fn ds) (L2.start e.N vs) p0 (frzS S H FU) H e' s' p' F S' H' → Q v H' := fun {e' d ds'} hend post v s' S' H' p' F st' rp tm ef => by
    obtain ⟨k1, k2⟩ := endDs_get hend
    let f : Nat → List Addr := fun j => if fn.prot.contains j then p' j else []
    have fsub : ∀ j a, a ∈ f j → a ∈ p' j := fun j a ha => by
      simp only [f] at ha
      split at ha
      · exact ha
      · cases ha
    have reps : Reps K cA S' H' ds' vs (((List.range' 0 ds'.length).map f).flatten) := Reps.of_fs (by rw [k1, hlv, hl]) fun j d' v' e1 e2 => by
      rw [Nat.zero_add]
      have hj : j < ds.length := by rw [← k1]; exact (List.getElem?_eq_some_iff.mp e1).1
      obtain ⟨d2, e3, e4⟩ := k2 j ds[j] (by simp [hj])
      rw [e1] at e3; cases e3
      rw [Nat.zero_add] at e4
      simp only [f]
      split
      · rename_i z
        rw [if_pos z] at e4
        obtain ⟨v2, h1, h2⟩ := st'.rep j _ e4
        have h3 := ef.lk j (.inr (by simp only [Cf.pts, Ent.cf]; rw [← ok.prot]; exact z))
        rw [h1, start_get e2] at h3
        cases h3
        exact h2
      · rename_i z
        rw [if_neg z] at e4
        subst e4
        have r0 := f3 j ds[j] v' (by simp [hj]) e2
        have r1 : Rep K cA (frzS S H FU) H ds[j].fr v' [] := Rep.frz s0 _ r0 fun a ha => fzat a (inFU a j (by simpa using z) ha)
        exact Rep.fzmono ef.ef.sub r1 (D.fz_fr _)
    have memf : ∀ a, a ∈ ((List.range' 0 ds'.length).map f).flatten → ∃ j, a ∈ p' j := fun a ha => by
      obtain ⟨l, hl, ha⟩ := List.mem_flatten.mp ha
      obtain ⟨j, _, rfl⟩ := List.mem_map.mp hl
      exact ⟨j, fsub j a ha⟩
    have lkf : ∀ j, (e.cf T).lks j = false := fun j => rfl
    have p0F : ∀ a, (∃ j, (e.cf T).lks j = false ∧ a ∈ p0 j) → a ∈ Fs.flatten := fun a ⟨j, _, h⟩ => flat_mem (p0sub j a h).2
    refine post v S' H' F _ (fun a o e => ef.ef.sub a o (s0 a o e)) st'.sub rp reps (List.nodup_append.mpr ⟨tm.nd, flat_nodup (fun j => ?_) (fun i j a hij ha hb => st'.dj i j a hij (fsub i a ha) (fsub j a hb)) _ _, fun a ha b hb e => ?_⟩) (fun a ha => ?_) (fun a o e1 e2 => ef.ef.keep a o e1 fun j _ h => e2 (flat_mem (p0sub j a h).2)) (fun a o e1 => ?_)
    · simp only [f]
      split
      · exact st'.nd j
      · exact List.nodup_nil
    · subst e
      obtain ⟨j, h⟩ := memf a hb
      exact tm.dj j a h ha
    · rcases List.mem_append.mp ha with z | z
      · exact ⟨tm.own a z, (ef.ef.tmp a z).imp id (p0F a)⟩
      · obtain ⟨j, h⟩ := memf a z
        exact ⟨st'.own j a h, (ef.ef.new j a (lkf j) h).imp id (p0F a)⟩
    · rcases ef.ef.cap a o e1 with z | z | z
      · unfold frzS at z
        by_cases q : a ∈ FU
        · exact .inr (.inr (FUsub a q))
        · rw [if_neg q] at z; exact .inl z
      · exact .inr (.inl z)
      · exact .inr (.inr (p0F a z))
  split at hev
  · rename_i e' hbody
    obtain ⟨ds2, h1, h2⟩ := Option.map_eq_some_iff.mp hev
    cases h2
    exact ⟨_, _, p0, _, st, hbody, fun s' S' H' p' st' ef => fin h1 post .non s' S' H' p' [] st' .non Tmp.nil ef⟩
  · rename_i d' e' hbody
    obtain ⟨ds2, h1, h2⟩ := Option.map_eq_some_iff.mp hev
    cases h2
    exact ⟨_, _, p0, _, st, hbody, fun v s' S' H' p' F st' rp tm ef => fin h1 post v s' S' H' p' F st' rp tm ef⟩
  · cases hev
end TK
/-! TK, part 24: what is asked at the head: facts of classes without an __init__, of tables, of methods taken over. Own work. -/
namespace TK
open PySem L2
inductive Fm
  | isk (x : Str) | mk0 (x : Str) | tup (x : Str) (vs : List He.Dv) | same (a b m : Str) | vals (x : Str) (kvs : List (Str × He.Dv))
def Fm.ok (K : PySem.W.Frag) : Fm → Bool
  | .mk0 x => PySem.W.makesIn K (He.ga K x) && (decide (PySem.W.findIn K (.ref (He.ga K x)) "__init__" = some (some (.builtin "object.__init__"))) && PySem.W.keepIn K (.ref (He.ga K x)))
  | .tup x vs => He.tupB K x vs
  | .isk x => (decide (PySem.W.findIn K (.ref (He.ga K x)) "__class__" = some (some (.builtin "object.__class__"))) && decide (PySem.W.specialIn K (.builtin "object.__class__") "__get__" = some (some (.builtin "getset_descriptor.__get__")))) &&
    ((decide (PySem.W.takesIn K (.builtin "object.__class__") = some true) && decide (PySem.W.mroIn K (He.ga K x) (.type "object") = some true)) && [Ty.bool, .int, .str, .list, .tuple, .dict].all fun t => decide (PySem.W.kitOne K (.ref (He.ga K x)) (.type t.nm) = some false))
  | .vals x kvs => He.valsB K (He.ga K x) kvs
  | .same a b m => decide (He.ma K (He.ga K a) m = He.ma K (He.ga K b) m)
abbrev AlM : Type := He.AlD × Bool × List (Option (List (Option (Str × Int))))
def obsMK (fa : List He.Fa) (fn : List He.DefD) (fm : List Fm) (ts : List (Str × List Str)) (K : PySem.W.Frag) : AlM := (He.obsD fa fn K, fm.all fun f => f.ok K, ts.map fun t => He.dicW K (He.ga K t.1))
/-- the addresses that are reached: each object's names are followed once -/
def memA (a : Addr) : List Addr → Bool
  | [] => false
  | b :: r => match Nat.beq a b with
    | true => true
    | false => memA a r
def addA : List Addr → List Addr → List Addr → (List Addr → List Addr → List Addr) → List Addr
  | [], s, f, k => k s f
  | a :: r, s, f, k => HandSHeadRun.frNat a fun a => match memA a s with
    | true => addA r s f k
    | false => addA r (a :: s) (a :: f) k
def asL (g : Addr → Option Obj) : Nat → List Addr → List Addr → List Addr
  | 0, _, s => s
  | n + 1, fr, s => addA (fr.flatMap fun a => match g a with
    | some o => He.refsD o
    | none => []) s [] fun s f => asL g n f s
def asM (g : Addr → Option Obj) (n : Nat) : List Addr := (asL g n [mainGlobals] [mainGlobals]).reverse
def obsM (n : Nat) (fa : List He.Fa) (fn : List He.DefD) (fm : List Fm) (ts : List (Str × List Str)) (g : Addr → Option Obj) : AlM := obsMK fa fn fm ts (He.frG g (asM g n))
structure SaysM (fa : List He.Fa) (fn : List He.DefD) (fm : List Fm) (ts : List (Str × List Str)) (w : World) (K : PySem.W.Frag) : Prop where
  d : He.SaysD fa fn K
  m : (fm.all fun f => f.ok K) = true
  t : (ts.map fun t => He.dicW K (He.ga K t.1)) = ts.map fun t => some (He.keysIn w.params t.2)
def hookM (n : Nat) (fa : List He.Fa) (fn : List He.DefD) (fm : List Fm) (ts : List (Str × List Str)) : PySem.W.Hook where
  α := AlM
  obs := fun s => obsM n fa fn fm ts s.heap.get?
  val := fun w => (He.valD fn, true, ts.map fun (t : Str × List Str) => some (He.keysIn w.params t.2))
  says := fun w h => ∃ K : PySem.W.Frag, K.In h ∧ SaysM fa fn fm ts w K
  of := fun _ _ e => ⟨_, He.frG_in, congrArg (fun z : AlM => z.1) e, congrArg (fun z : AlM => z.2.1) e, (congrArg (fun z : AlM => z.2.2) e :)⟩
  keeps := fun _ _ _ ⟨K, hK, c⟩ k => ⟨K, PySem.W.Frag.In.keeps hK k, c⟩
theorem obsM_eq {n : Nat} {fa : List He.Fa} {fn : List He.DefD} {fm : List Fm} {ts : List (Str × List Str)} {g : Addr → Option Obj} {s : Shared} (h : ∀ a, g a = s.heap.get? a) : obsM n fa fn fm ts g = (hookM n fa fn fm ts).obs s := by
  have e : g = s.heap.get? := funext h
  rw [e] <;> rfl
section
variable {fa : List He.Fa} {fn : List He.DefD} {fm : List Fm} {ts : List (Str × List Str)} {w : World} {K : PySem.W.Frag}
theorem SaysM.own (c : SaysM fa fn fm ts w K) (i : Nat) {f : Fm} (h : fm[i]? = some f := by rfl) : f.ok K = true := List.all_eq_true.mp c.m f (List.mem_of_getElem? h)
theorem Fm.mk0_ok {x : Str} (c : (Fm.mk0 x).ok K = true) : Mk0 K (He.ga K x) := by
  simp only [Fm.ok, Bool.and_eq_true, decide_eq_true_eq] at c
  exact ⟨c.1, c.2.1, c.2.2⟩
theorem Fm.isk_ok {x : Str} (cl : Cls K (He.ga K x)) (c : (Fm.isk x).ok K = true) : IsK K (He.ga K x) := by
  simp only [Fm.ok, Bool.and_eq_true, decide_eq_true_eq, List.all_cons, List.all_nil] at c
  exact ⟨cl, c.1.1, c.1.2, c.2.1.1, c.2.1.2, fun t => by
    obtain ⟨c1, c2, c3, c4, c5, c6, _⟩ := c.2.2
    cases t
    · exact c1
    · exact c2
    · exact c3
    · exact c4
    · exact c5
    · exact c6⟩
theorem SaysM.tab (c : SaysM fa fn fm ts w K) (i : Nat) {t : Str × List Str} (h : ts[i]? = some t := by rfl) : ∃ es n, KDict K w (He.ga K t.1) es n := by
  have e2 : (ts.map fun t => He.dicW K (He.ga K t.1))[i]? = (ts.map fun t => some (He.keysIn w.params t.2))[i]? := by rw [c.t]
  rw [List.getElem?_map, List.getElem?_map, h] at e2
  exact He.dicW_ok (Option.some.inj e2)
/-- a table's value by its key -/
theorem SaysM.dct (c : SaysM fa fn fm ts w K) (i j : Nat) {x : Str} {ks : List Str} {kvs : List (Str × He.Dv)} (h : ts[i]? = some (x, ks)) (hv : fm[j]? = some (.vals x kvs)) {q : Str × He.Dv} (hq : q ∈ kvs) : KDct K w (He.ga K x) q.1 (q.2.v K) := by
  obtain ⟨es, n, k⟩ := c.tab i h
  obtain ⟨u, h1, h2⟩ := He.valsB_ok (c.own j hv) hq
  exact ⟨es, n, u, k.at_, k.lit, h1, h2⟩
theorem Fm.same_ok {a b m : Str} (c : (Fm.same a b m).ok K = true) : He.ma K (He.ga K a) m = He.ma K (He.ga K b) m := of_decide_eq_true c
end
/-! ### the head's run, in two parts -/
open PySem.W PySem.Calls PyProof.Rows HandSHeadRun in
def RunA (r : OpenRow) (q : Program) (M : Nat) (loose : List PySem.Str) (w : World) : Prop :=
  ∀ os : OsState, (endF (stepQ (denQ tabQ) r.prog w) M r.prog w os).map (fun s => (looksF r.prog (boot_heap w.params) s.abs, seenQ q loose (importedModules r.prog.main.body) (fun s => xlAt q [] s && recOk r.toRowW.records s) s.abs)) = some (true, openGood q loose)
open PySem.W PySem.Calls PyProof.Rows HandSHeadRun in
def RunB (r : OpenRow) (H : Hook) (ob : SharedT → H.α) (M : Nat) (w : World) : Prop :=
  ∀ os : OsState, (endF (stepQ (denQ tabQ) r.prog w) M r.prog w os).map (fun s => ob s) = some (H.val w)
theorem run_of {r : PySem.W.OpenRow} {q : Program} {H : PySem.W.Hook} {ob : PySem.W.SharedT → H.α} {M : Nat} {loose : List PySem.Str} {w : World} (a : RunA r q M loose w) (b : RunB r H ob M w) : HandSHeadRun.RunEq r q H ob M loose w := by
  intro os
  have a := a os
  have b := b os
  cases e : HandSHeadRun.endF (HandSHeadRun.stepQ (HandSHeadRun.denQ HandSHeadRun.tabQ) r.prog w) M r.prog w os with
  | none =>
    rw [e] at a
    cases a
  | some s =>
    rw [e] at a b
    simp only [Option.map_some, Option.some.injEq, Prod.mk.injEq] at a b ⊢
    exact ⟨a.1, a.2, b⟩
end TK
/-! TK: instances get tags, once, in the body of law. Own work. -/
namespace TK
open PySem L2
section
variable {K : PySem.W.Frag} {cA cB : Nat → Addr} {S S' H H' : Hp}
def Agree (cA cB : Nat → Addr) : Prop := ∀ i, i < 1000000000 → cB i = cA i
/-- a class number with a tag is the class's -/
def Mod (cA : Nat → Addr) : Prop := ∀ c t, c < 1000 → c + 1000 * t < 1000000000 → cA (c + 1000 * t) = cA c
theorem HoIs.agree (ag : Agree cA cB) : ∀ {k : Kd} {vs : List V} {o : HO}, HoIs cA k vs o → HoIs cB k vs o
  | .tup, _, _, h => h
  | .lst, _, _, h => h
  | .scr, _, _, h => h
  | .kt, _, _, h => h
  | .dK _, _, _, h => h
  | .dT _, _, _, h => h
  | .ins c ns, _, _, ⟨h, l, dx, e⟩ => ⟨h, l, dx, by rw [ag c (by omega)]; exact e⟩
theorem FzIs.agree (ag : Agree cA cB) : ∀ {k : Kd} {a : Addr} {vs : List V}, (match k with | .ins c _ => decide (c < 1000) | _ => true) = true → FzIs K cA S k a vs → FzIs K cB S k a vs
  | .tup, _, _, _, h => h
  | .lst, _, _, _, h => h
  | .scr, _, _, _, h => h
  | .kt, _, _, _, h => h
  | .dK _, _, _, _, h => h
  | .dT _, _, _, _, h => h
  | .ins c ns, _, _, hc, ⟨o, e, t, l, dx, q⟩ => by
    have hc := of_decide_eq_true hc
    exact ⟨o, e, fun z => absurd z (by omega), l, dx, by rw [ag c (by omega)]; exact q⟩
mutual
theorem Rep.agree (ag : Agree cA cB) : ∀ (d : D) {v : V} {F : List Addr}, d.unt = true → Rep K cA S H d v F → Rep K cB S H d v F
  | .non, _, _, _, h => by cases h; exact .non
  | .bl _, _, _, _, h => by cases h; exact .bl _
  | .int _, _, _, _, h => by cases h; exact .int _
  | .str _, _, _, _, h => by cases h; exact .str _
  | .nd k o xs, _, _, u, h => by
    simp only [D.unt, Bool.and_eq_true] at u
    cases h with
    | tup q r => exact .tup q (Reps.agree ag xs u.2 r)
    | fz n q r z => exact .fz n (FzIs.agree ag u.1 q) (Reps.agree ag xs u.2 r) z
    | ow n e q r => exact .ow n e (HoIs.agree ag q) (Reps.agree ag xs u.2 r)
theorem Reps.agree (ag : Agree cA cB) : ∀ (ds : List D) {vs : List V} {F : List Addr}, D.unt.unts ds = true → Reps K cA S H ds vs F → Reps K cB S H ds vs F
  | [], _, _, _, h => by cases h; exact .nil
  | d :: ds, _, _, u, h => by
    simp only [D.unt.unts, Bool.and_eq_true] at u
    cases h with
    | cons r rs => exact .cons (Rep.agree ag d u.1 r) (Reps.agree ag ds u.2 rs)
end
theorem tg_other {k : Kd} {n : Nat} {o : Bool} {xs : List D} (h : ∀ c ns, k ≠ .ins c ns) : D.tg n (.nd k o xs) = ((D.tg.tgs n xs).1, .nd k false (D.tg.tgs n xs).2) := by
  cases k with
  | ins c ns => exact absurd rfl (h c ns)
  | _ => rfl
theorem tg_ins {c n : Nat} {ns : List Str} {o : Bool} {xs : List D} : D.tg n (.nd (.ins c ns) o xs) = ((D.tg.tgs (n + 1) xs).1, .nd (.ins (c + 1000 * n) ns) false (D.tg.tgs (n + 1) xs).2) := rfl
mutual
theorem tg_fz : ∀ (d : D) (n : Nat), (D.tg n d).2.fz = true
  | .non, _ => rfl | .bl _, _ => rfl | .int _, _ => rfl | .str _, _ => rfl
  | .nd k o xs, n => by
    cases k with
    | ins c ns => rw [tg_ins]; simp [tgs_fz xs (n + 1)]
    | _ => rw [tg_other (by intro c ns z; cases z)]; simp [tgs_fz xs n]
theorem tgs_fz : ∀ (ds : List D) (n : Nat), fzs (D.tg.tgs n ds).2 = true
  | [], _ => rfl
  | d :: ds, n => by
    show fzs ((D.tg n d).2 :: (D.tg.tgs (D.tg n d).1 ds).2) = true
    simp [tg_fz d n, tgs_fz ds]
end
/-- what a numbering from n to m has to keep -/
def TgOk (K : PySem.W.Frag) (cA : Nat → Addr) (S H : Hp) (F : List Addr) (n m : Nat) (g : (Nat → Addr) → Hp → Hp → Prop) : Prop :=
  n ≤ m ∧ ∃ L : List Addr, L.length = m - n ∧ ∀ (cB : Nat → Addr) (S' H' : Hp), Agree cA cB → m < 1000000 → (∀ j a, L[j]? = some a → cB (1000000000 + (n + j)) = a) → Sub S S' → (∀ a ∈ F, S' a = H a) → g cB S' H'
theorem TgOk.same {F : List Addr} {n : Nat} {g : (Nat → Addr) → Hp → Hp → Prop} (h : ∀ cB S' H', Agree cA cB → Sub S S' → (∀ a ∈ F, S' a = H a) → g cB S' H') : TgOk K cA S H F n n g :=
  ⟨Nat.le_refl _, [], by simp, fun cB S' H' ag _ _ s f => h cB S' H' ag s f⟩
mutual
theorem Rep.tag (mod : Mod cA) : ∀ (d : D) (n : Nat) {v : V} {F : List Addr}, d.unt = true → Rep K cA S H d v F → TgOk K cA S H F n (D.tg n d).1 fun cB S' H' => Rep K cB S' H' (D.tg n d).2 v []
  | .non, n, _, _, _, h => TgOk.same fun _ _ _ _ _ _ => by cases h; exact .non
  | .bl _, n, _, _, _, h => TgOk.same fun _ _ _ _ _ _ => by cases h; exact .bl _
  | .int _, n, _, _, _, h => TgOk.same fun _ _ _ _ _ _ => by cases h; exact .int _
  | .str _, n, _, _, _, h => TgOk.same fun _ _ _ _ _ _ => by cases h; exact .str _
  | .nd k o xs, n, v, F, u, h => by
    simp only [D.unt, Bool.and_eq_true] at u
    by_cases hk : ∃ c ns, k = .ins c ns
    · obtain ⟨c, ns, rfl⟩ := hk
      have hc := of_decide_eq_true u.1
      rw [tg_ins]
      have go : ∀ (a : Addr) (vs : List V) (F' : List Addr), v = .ref a → Reps K cA S H xs vs F' → (∀ b ∈ F', b ∈ F) → (∀ S', Sub S S' → (∀ b ∈ F, S' b = H b) → ∃ o, S' a = some o ∧ ns.length = vs.length ∧ ∃ dx, o = .ins (cA c) dx (ns.zip vs)) → TgOk K cA S H F n (D.tg.tgs (n + 1) xs).1 fun cB S' H' => Rep K cB S' H' (.nd (.ins (c + 1000 * n) ns) false (D.tg.tgs (n + 1) xs).2) v [] := fun a vs F' ev rs sf at_ => by
        obtain ⟨h1, L, h2, h3⟩ := Reps.tag mod xs (n + 1) u.2 rs
        refine ⟨by omega, a :: L, by simp; omega, fun cB S' H' ag hm hL s f => ?_⟩
        have r := h3 cB S' H' ag hm (fun j b e => by
          have := hL (j + 1) b (by simpa using e)
          rw [show n + 1 + j = n + (j + 1) by omega]; exact this) s fun b hb => f b (sf b hb)
        obtain ⟨o, e1, e2, dx, e3⟩ := at_ S' s f
        subst ev
        refine .fz nofun ⟨o, e1, fun _ => ?_, e2, dx, ?_⟩ r (tgs_fz xs _)
        · have := hL 0 a rfl
          rw [show (c + 1000 * n) / 1000 = n by omega]
          exact this.symm
        · rw [ag _ (by omega), mod c n hc (by omega)]; exact e3
      cases h with
      | @fz _ _ a vs m q r z =>
        obtain ⟨o, e, _, l, dx, q⟩ := q
        exact go a vs [] rfl r (by simp) fun S' s _ => ⟨o, s _ _ e, l, dx, q⟩
      | @ow _ _ a vs o F' m e q r =>
        obtain ⟨_, l, dx, q⟩ := q
        exact go a vs F' rfl r (fun b hb => List.mem_cons_of_mem _ hb) fun S' s f => ⟨o, (f _ List.mem_cons_self).trans e, l, dx, q⟩
    · have hk : ∀ c ns, k ≠ .ins c ns := fun c ns z => hk ⟨c, ns, z⟩
      rw [tg_other hk]
      cases h with
      | tup q r =>
        obtain ⟨h1, L, h2, h3⟩ := Reps.tag mod xs n u.2 r
        exact ⟨h1, L, h2, fun cB S' H' ag hm hL s f => .tup (s _ _ q) (h3 cB S' H' ag hm hL s f)⟩
      | fz m q r z =>
        obtain ⟨h1, L, h2, h3⟩ := Reps.tag mod xs n u.2 r
        exact ⟨h1, L, h2, fun cB S' H' ag hm hL s f => .fz m (FzIs.mono s (FzIs.agree ag u.1 q)) (h3 cB S' H' ag hm hL s f) (tgs_fz xs _)⟩
      | ow m e q r =>
        obtain ⟨h1, L, h2, h3⟩ := Reps.tag mod xs n u.2 r
        exact ⟨h1, L, h2, fun cB S' H' ag hm hL s f => .fz m (HoIs.fz m ((f _ List.mem_cons_self).trans e) (HoIs.agree ag q)) (h3 cB S' H' ag hm hL s fun b hb => f b (List.mem_cons_of_mem _ hb)) (tgs_fz xs _)⟩
theorem Reps.tag (mod : Mod cA) : ∀ (ds : List D) (n : Nat) {vs : List V} {F : List Addr}, D.unt.unts ds = true → Reps K cA S H ds vs F → TgOk K cA S H F n (D.tg.tgs n ds).1 fun cB S' H' => Reps K cB S' H' (D.tg.tgs n ds).2 vs []
  | [], n, _, _, _, h => TgOk.same fun _ _ _ _ _ _ => by cases h; exact .nil
  | d :: ds, n, _, _, u, h => by
    simp only [D.unt.unts, Bool.and_eq_true] at u
    cases h with
    | @cons _ v F1 _ vs F2 r rs =>
      obtain ⟨h1, L, h2, h3⟩ := Rep.tag mod d n u.1 r
      obtain ⟨k1, M, k2, k3⟩ := Reps.tag mod ds (D.tg n d).1 u.2 rs
      show TgOk K cA S H (F1 ++ F2) n (D.tg.tgs (D.tg n d).1 ds).1 fun cB S' H' => Reps K cB S' H' ((D.tg n d).2 :: (D.tg.tgs (D.tg n d).1 ds).2) (v :: vs) []
      refine ⟨by omega, L ++ M, by rw [List.length_append]; omega, fun cB S' H' ag hm hL s f => ?_⟩
      refine .cons (F := []) (Fs := []) (h3 cB S' H' ag (by omega) (fun j a e => ?_) s fun a ha => f a (List.mem_append_left _ ha)) (k3 cB S' H' ag hm (fun j a e => ?_) s fun a ha => f a (List.mem_append_right _ ha))
      · exact hL j a (by rw [List.getElem?_append_left (List.getElem?_eq_some_iff.mp e).1]; exact e)
      · have := hL (L.length + j) a (by rw [List.getElem?_append_right (by omega)]; simpa using e)
        rw [show (D.tg n d).1 + j = n + (L.length + j) by omega]
        exact this
end
theorem lock_ok {r r2 : Env} {s : St} {p : Nat → List Addr} {i : Nat} (mod : Mod cA) (st : Stt K cA S H r s p) (e : lockE i r = some r2) : ∃ cB S2 p2, Agree cA cB ∧ Stt K cB S2 H r2 s p2 := by
  unfold lockE at e
  split at e
  case isFalse => cases e
  rename_i hall
  split at e
  case h_2 => cases e
  rename_i d hd
  split at e
  case isFalse => cases e
  rename_i hlim
  cases e
  have hi := gt_lt hd
  have unt : ∀ j x, gt r j = some x → x.unt = true := fun j x hx => by
    unfold gt at hx
    split at hx
    · rename_i y hy
      cases hx
      have := List.all_eq_true.mp hall _ (List.mem_of_getElem? hy)
      simpa using this
    · cases hx
  obtain ⟨v, hv, rp⟩ := st.rep i d hd
  obtain ⟨h1, L, h2, h3⟩ := Rep.tag mod d 1 (unt i d hd) rp
  have hs : Sub S (frzS S H (p i)) := fun a o e => by
    unfold frzS
    split
    · exact st.sub a o e
    · exact e
  have hsub : Sub (frzS S H (p i)) H := fun a o e => by
    unfold frzS at e
    split at e
    · exact e
    · exact st.sub a o e
  let cB : Nat → Addr := fun k => if k < 1000000000 then cA k else L.getD (k - 1000000001) 0
  have ag : Agree cA cB := fun k hk => by show (if k < 1000000000 then cA k else _) = _; rw [if_pos hk]
  have rp2 := h3 cB (frzS S H (p i)) H ag hlim (fun j a e => by
    show (if 1000000000 + (1 + j) < 1000000000 then cA _ else L.getD _ 0) = a
    rw [if_neg (by omega), show 1000000000 + (1 + j) - 1000000001 = j by omega, List.getD_eq_getElem?_getD, e]
    rfl) hs fun a ha => by unfold frzS; rw [if_pos ha]
  refine ⟨cB, frzS S H (p i), fun j => if j = i then [] else p j, ag, hsub, by rw [List.length_set]; exact st.len, fun j x hx => ?_, fun j hj => ?_, fun j => ?_, fun j k a hjk q1 q2 => ?_, fun j a ha => ?_⟩
  · rw [gt_set hi] at hx
    by_cases hj : j = i
    · subst hj
      rw [if_pos rfl] at hx
      cases hx
      exact ⟨v, hv, by simp only [if_pos]; exact rp2⟩
    · rw [if_neg hj] at hx
      obtain ⟨w, hw, rq⟩ := st.rep j x hx
      exact ⟨w, hw, by simp only [if_neg hj]; exact Rep.mono hs x (Rep.agree ag x (unt j x hx) rq) fun a _ => rfl⟩
  · rw [gt_set hi] at hj
    by_cases q : j = i
    · simp only [if_pos q]
    · rw [if_neg q] at hj
      simp only [if_neg q]
      exact st.emp j hj
  · by_cases q : j = i
    · simp only [if_pos q]; exact List.nodup_nil
    · simp only [if_neg q]; exact st.nd j
  · by_cases hj : j = i
    · simp only [if_pos hj] at q1; exact absurd q1 (by simp)
    · by_cases hk : k = i
      · simp only [if_pos hk] at q2; exact absurd q2 (by simp)
      · simp only [if_neg hj] at q1
        simp only [if_neg hk] at q2
        exact st.dj j k a hjk q1 q2
  · by_cases hj : j = i
    · simp only [if_pos hj] at ha; exact absurd ha (by simp)
    · simp only [if_neg hj] at ha
      unfold frzS
      rw [if_neg fun z => st.dj j i a hj ha z]
      exact st.own j a ha
end
section
variable {X : Cx} {cA : Nat → Addr} {G : Sig} {cl : Cl} {kr : Nat} {c : Cf}
theorem ss_pre {f : Cf → Stmt → Option Sm} (hf : ∀ c s x X, COkS cA G cl kr c X → f c s = some x → OkS X cA G cl c.lks c.pts s x) : ∀ {ss : List Stmt} {xs : Sms}, COkS cA G cl kr c X → cSs f c ss = some xs → ∀ {rest : List Stmt} {u : TS}, PSs X rest u →
    PSs X (ss ++ rest) fun D s H => ∃ S r p r1, Stt X.K cA S H r s p ∧ xs.ev G cl r = some (.nx r1) ∧ ∀ s' S' H' p', Stt X.K cA S' H' r1 s' p' → u D s' H'
  | [], xs, h, q, rest, u, hr => by
    cases q
    exact PSs.imp hr fun D s H ⟨S, r, p, r1, st, e, k⟩ => by
      cases e
      exact k s S H p st
  | s :: ss, xs, h, q, rest, u, hr => by
    simp only [cSs] at q
    split at q
    · rename_i x ys h1 h2
      cases q
      refine PSs.imp (pss_cons (hf c s x X h h1) (ss_pre hf h h2 hr)) fun D s H ⟨S, r, p, r1, st, e, k⟩ => ?_
      simp only [Sms.ev] at e
      split at e
      · rename_i r2 h3
        exact ⟨S, r, p, .nx r2, st, h3, fun s' S' H' p' st' ef => ⟨S', r2, p', r1, st', e, k⟩⟩
      · rename_i h3
        exact absurd e (by intro z; exact h3 _ z)
    · cases q
end
theorem lookup_all {α β : Type} [BEq α] {p : α × β → Bool} : ∀ {l : List (α × β)} {x : α} {y : β}, l.all p = true → l.lookup x = some y → ∃ z, p (z, y) = true
  | [], _, _, _, h => by cases h
  | (a, b) :: l, x, y, ha, h => by
    simp only [List.all_cons, Bool.and_eq_true] at ha
    rw [List.lookup_cons] at h
    split at h
    · cases h; exact ⟨a, ha.1⟩
    · exact lookup_all ha.2 h
theorem Env0k.agree {w : World} {K : PySem.W.Frag} {mg : Str → Option Value} {cA cB : Nat → Addr} {adr : Nat → Addr} {G : Sig} {fns : List Fn} {E : List Ent} {T : Tb} {fuel : Nat} (V : Env0k w K mg cA adr G fns E T fuel) (ag : Agree cA cB) (h2 : ∀ ci n, G.flds ci n = true → ci < 1000000000) (h3 : ∀ ci m f, G.meths ci m = some f → ci < 1000000000)
    (h4 : (T.cls.all fun p => decide (p.2 < 1000000000)) = true) (h5 : (T.isk.all fun c => decide (c < 1000000000)) = true) (h6 : (G.consts.all fun p => p.2.unt) = true) (h7 : (G.dcts.all fun p => p.2.all fun q => q.2.unt) = true) : Env0k w K mg cB adr G fns E T fuel where
  stat := V.stat
  dyn := V.dyn
  tab := V.tab
  blt := V.blt
  cons := fun x h => by
    obtain ⟨v, u, d, a1, a2, a3, a4, a5⟩ := V.cons x h
    obtain ⟨z, hz⟩ := lookup_all h6 a3
    exact ⟨v, u, d, a1, a2, a3, fun S H => Rep.agree ag d hz (a4 S H), a5⟩
  isk := fun ci h => by
    rw [ag ci (of_decide_eq_true (List.all_eq_true.mp h5 ci h))]
    exact V.isk ci h
  flds := fun ci n h => by rw [ag ci (h2 ci n h)]; exact V.flds ci n h
  meths := fun ci m f h => by rw [ag ci (h3 ci m f h)]; exact V.meths ci m f h
  cls := fun x ci h => by
    obtain ⟨z, hz⟩ := lookup_all h4 h
    rw [ag ci (of_decide_eq_true hz)]
    exact V.cls x ci h
  dct := fun x h => by
    obtain ⟨a, a1, a2, a3⟩ := V.dct x h
    refine ⟨a, a1, a2, fun kv hk z d hd => ?_⟩
    obtain ⟨v, b1, b2⟩ := a3 kv hk z d hd
    obtain ⟨x', hx⟩ := lookup_all h7 hk
    obtain ⟨z', hz⟩ := lookup_all hx hd
    exact ⟨v, b1, fun S H => Rep.agree ag d hz (b2 S H)⟩
theorem law_ok {P : Program} {w : World} {K : PySem.W.Frag} {mg : Str → Option Value} {base : Heap} {cA : Nat → Addr} {adr : Nat → Addr} {G : Sig} {fns : List Fn} {E : List Ent} {T : Tb} {fuel : Nat} (VV : ∀ cB, Agree cA cB → Env0k w K mg cB adr G fns E T fuel) (mod : Mod cA)
    (k i : Nat) (e : Ent) (fd : FuncData) (hE : E[i]? = some e) (hat : EntAt K e (adr i) fd) (one : e.ps.length = 1) (hok : okN e.N = true) (hlen : 1 ≤ e.N.length) (sc : FnScope e.N e.ps (defScope e.st)) (m : Nat) (pre post : Sms)
    (hpre : cSs (cS fuel) (e.cf T) ((defBody e.st).take m) = some pre) (hpost : cSs (cS fuel) (e.cf T) ((defBody e.st).drop m) = some post) (j : Nat) :
    FnOk P w K mg base CX0 (2 * (k + 1)) (adr i) fd e.ps (fun vs H Q _ => ∃ (a : Addr) (ns : List Int), vs = [.ref a] ∧ SqL K H a (ns.map V.int) ∧ evL G fns k j pre post (some (.nd .scr false (ns.map .int)) :: List.replicate (e.N.length - 1) none) = some (.bl true) ∧ ∀ H', Q (.bl true) H') := by
  obtain ⟨dvs, hF⟩ := hat.fun_
  rw [show 2 * (k + 1) = (2 * k + 1) + 1 by omega]
  refine hF.ok sc (fun vs H Q E ⟨a, ns, e1, _⟩ => by rw [e1, one]; rfl) fun cdv A outer s H vs Q E0' hr ⟨a, ns, e1, hS, hev, hQ⟩ => ?_
  subst e1
  have hcok : ∀ cB, Agree cA cB → COkS cB G (evF G fns k) (2 * k) (e.cf T) (cxOf CX0 P w K mg base e.N e.qn (defScope e.st) (adr i) cdv A outer s H E0') := fun cB ag => by
    have V := VV cB ag
    have ih := fns_ok (P := P) (w := w) (base := base) V k
    refine ⟨⟨rfl, sc.nd, fun x hx => ?_, fun x k h _ => h, fun x h => .inl h, fun _ _ => rfl, rfl, hr, V.blt, V.cons, fun x id np df h => ?_, V.isk, V.flds, ?_, fun x ci h => ?_, V.dct⟩, rfl, sc.kind, passes_of rfl⟩
    · have := List.all_eq_true.mp hok x hx
      simpa using this
    · obtain ⟨h1, h3, e2, h2, rfl, rfl⟩ := V.tab x id np df h
      obtain ⟨fd2, hat2⟩ := V.dyn id e2 h2
      obtain ⟨dvs2, hF2⟩ := hat2.fun_
      exact ⟨h1, fun ds d ds' q => evF_len V h2 q, adr id, fd2, e2.ps, ih id e2 fd2 h2 hat2, h3, hF2.kp, hat2.binds⟩
    · refine ⟨fun f => match fns[f]? with | some fn => fn.np | none => 0, fun f ds d ds' q => ?_, fun ci m f q => ?_⟩
      · cases k with
        | zero => cases q
        | succ k =>
          unfold evF at q
          split at q
          · cases q
          · rename_i fn2 h2
            split at q
            · rename_i z; simp only [h2]; exact z
            · cases q
      · obtain ⟨h1, h2, e2, h3⟩ := V.meths ci m f q
        obtain ⟨fd2, hat2⟩ := V.dyn f e2 h3
        obtain ⟨ds2, f7, f8⟩ := hat2.binds e2.df.length
        have hd : ds2 = [] := by
          rw [List.drop_length] at f7
          cases f7; rfl
        subst hd
        obtain ⟨fn2, hfn2, ok2⟩ := V.stat f e2 h3
        have hb2 := ok2.b
        simp only [Ent.okB, Bool.and_eq_true, decide_eq_true_eq] at hb2
        have := ih f e2 fd2 h3 hat2
        simp only [hfn2]
        rw [hb2.1.1.1.2]
        exact ⟨adr f, fd2, e2.ps, h1, h2, this, f8⟩
    · obtain ⟨h1, h2, ⟨f, e2, h3, h4, h5⟩ | ⟨h3, h4⟩⟩ := V.cls x ci h
      · obtain ⟨fd2, hat2⟩ := V.dyn f e2 h4
        obtain ⟨ds2, f7, f8⟩ := hat2.binds e2.df.length
        have hd : ds2 = [] := by
          rw [List.drop_length] at f7
          cases f7; rfl
        subst hd
        exact ⟨h1, h2, .inl ⟨f, adr f, fd2, e2.ps, e2.ps.length, h3, h5, ih f e2 fd2 h4 hat2, f8, fun ds d ds' q => evF_len V h4 q⟩⟩
      · exact ⟨h1, h2, .inr ⟨h3, h4⟩⟩
  have hpo : PSs (cxOf CX0 P w K mg base e.N e.qn (defScope e.st) (adr i) cdv A outer s H E0') ((defBody e.st).drop m) fun D s H => ∃ cB S r p r3, Agree cA cB ∧ Stt K cB S H r s p ∧ post.ev G (evF G fns k) r = some (.ret (.bl true) r3) ∧ ∀ H', D.rt (.bl true) H' :=
    ⟨fun pins s σ H D I ⟨cB, S, r, p, r3, ag, st, ev, hD⟩ => (cSs_ok (cS_ok fuel) (hcok cB ag) hpost).run pins s σ H D I ⟨S, r, p, .ret (.bl true) r3, st, ev, fun v s' S' H' p' F st' rp tm ef => by cases rp; exact hD H'⟩⟩
  have hall := ss_pre (cS_ok fuel) (hcok cA fun _ _ => rfl) hpre hpo
  rw [List.take_append_drop] at hall
  refine ⟨_, hall, ?_⟩
  unfold evL at hev
  split at hev
  case h_2 => cases hev
  rename_i r1 h1
  split at hev
  case h_2 => cases hev
  rename_i r2 h2
  split at hev
  case h_2 => cases hev
  rename_i d r3 h3
  cases hev
  have st : Stt K cA H H (some (.nd .scr false (ns.map .int)) :: List.replicate (e.N.length - 1) none) (L2.start e.N [.ref a]) fun _ => [] := by
    refine ⟨fun _ _ e => e, ?_, fun j d he => ?_, fun j he => rfl, fun j => List.nodup_nil, fun i j a hij ha hb => (by cases ha), fun j a ha => (by cases ha)⟩
    · unfold L2.start
      simp
    · cases j with
      | zero =>
        cases he
        refine ⟨.ref a, start_get rfl, ?_⟩
        have rs : ∀ ns : List Int, Reps K cA H H (ns.map D.int) (ns.map V.int) [] := fun ns => by
          induction ns with
          | nil => exact .nil
          | cons n ns ih => exact .cons (F := []) (Fs := []) (.int n) ih
        have fz : ∀ ns : List Int, fzs (ns.map D.int) = true := fun ns => by
          induction ns with
          | nil => rfl
          | cons n ns ih => simp [ih]
        exact .fz (by decide) hS (rs ns) (fz ns)
      | succ j =>
        unfold gt at he
        rw [List.getElem?_cons_succ, List.getElem?_replicate] at he
        split at he
        · rename_i q; split at q <;> cases q
        · cases he
  refine ⟨H, _, _, r1, st, h1, fun s' S' H' p' st' => ?_⟩
  obtain ⟨cB, S2, p2, ag, st2⟩ := lock_ok mod st' h2
  exact ⟨cB, S2, r2, p2, r3, ag, st2, h3, hQ⟩
end TK
/-! TK, part 23: laws of the evaluator, for the plain part. Own work. -/
namespace TK
open PySem (Str)
theorem forL_inv {f : D → Env → Option Out} (P : Env → Prop) : ∀ {xs : List D} {e : Env}, P e → (∀ x ∈ xs, ∀ e, P e → ∃ e', f x e = some (.nx e') ∧ P e') → ∃ e', forL f xs e = some (.nx e') ∧ P e'
  | [], e, h, _ => ⟨e, rfl, h⟩
  | x :: xs, e, h, k => by
    obtain ⟨e1, h1, h2⟩ := k x List.mem_cons_self e h
    obtain ⟨e2, h3, h4⟩ := forL_inv P (xs := xs) h2 fun y hy => k y (List.mem_cons_of_mem _ hy)
    exact ⟨e2, by simp only [forL, h1]; exact h3, h4⟩
/-- by the turn's number -/
theorem forL_ix {f : D → Env → Option Out} (P : Nat → Env → Prop) : ∀ {xs : List D} {e : Env} {i : Nat}, P i e → (∀ j x, xs[j]? = some x → ∀ e, P (i + j) e → ∃ e', f x e = some (.nx e') ∧ P (i + j + 1) e') → ∃ e', forL f xs e = some (.nx e') ∧ P (i + xs.length) e'
  | [], e, i, h, _ => ⟨e, rfl, h⟩
  | x :: xs, e, i, h, k => by
    obtain ⟨e1, h1, h2⟩ := k 0 x rfl e h
    obtain ⟨e2, h3, h4⟩ := forL_ix P (xs := xs) (i := i + 1) h2 fun j y hy e he => by
      have := k (j + 1) y (by simpa using hy) e (by rw [show i + (j + 1) = i + 1 + j by omega]; exact he)
      rw [show i + (j + 1) = i + 1 + j by omega] at this
      exact this
    exact ⟨e2, by simp only [forL, h1]; exact h3, by rw [List.length_cons, show i + (xs.length + 1) = i + 1 + xs.length by omega]; exact h4⟩
/-- a comprehension that takes every item -/
theorem lcL_all {f : D → Env → Option (Option D × Env)} (P : Env → Prop) (Z : D → Prop) : ∀ {xs acc : List D} {e : Env}, P e → acc.length + xs.length ≤ sLine → (∀ d ∈ acc, Z d) → (∀ x ∈ xs, ∀ e, P e → ∃ d e', f x e = some (some d, e') ∧ P e' ∧ Z d) →
    ∃ ds e', lcL f xs acc e = some (ds, e') ∧ P e' ∧ ds.length = acc.length + xs.length ∧ ∀ d ∈ ds, Z d
  | [], acc, e, h, _, ha, _ => ⟨acc, e, rfl, h, rfl, ha⟩
  | x :: xs, acc, e, h, hl, ha, k => by
    obtain ⟨d, e1, h1, h2, hz⟩ := k x List.mem_cons_self e h
    obtain ⟨ds, e2, h3, h4, h5, h6⟩ := lcL_all P Z (xs := xs) (acc := acc ++ [d]) h2 (by simp at hl ⊢; omega) (fun y hy => (List.mem_append.mp hy).elim (ha y) fun z => by rw [List.mem_singleton.mp z]; exact hz) fun y hy => k y (List.mem_cons_of_mem _ hy)
    refine ⟨ds, e2, ?_, h4, by rw [h5]; simp; omega, h6⟩
    simp only [lcL, h1]
    rw [if_pos (by simp at hl; omega)]
    exact h3
/-- by the turn's number -/
theorem lcL_ix {f : D → Env → Option (Option D × Env)} (P : Nat → Env → Prop) (Z : D → Prop) : ∀ {xs acc : List D} {e : Env} {i : Nat}, P i e → acc.length + xs.length ≤ sLine → (∀ d ∈ acc, Z d) → (∀ j x, xs[j]? = some x → ∀ e, P (i + j) e → ∃ d e', f x e = some (some d, e') ∧ P (i + j + 1) e' ∧ Z d) →
    ∃ ds e', lcL f xs acc e = some (ds, e') ∧ P (i + xs.length) e' ∧ ds.length = acc.length + xs.length ∧ ∀ d ∈ ds, Z d
  | [], acc, e, i, h, _, ha, _ => ⟨acc, e, rfl, h, rfl, ha⟩
  | x :: xs, acc, e, i, h, hl, ha, k => by
    obtain ⟨d, e1, h1, h2, hz⟩ := k 0 x rfl e h
    obtain ⟨ds, e2, h3, h4, h5, h6⟩ := lcL_ix P Z (xs := xs) (acc := acc ++ [d]) (i := i + 1) h2 (by simp at hl ⊢; omega) (fun y hy => (List.mem_append.mp hy).elim (ha y) fun z => by rw [List.mem_singleton.mp z]; exact hz) fun j y hy e he => by
      have := k (j + 1) y (by simpa using hy) e (by rw [show i + (j + 1) = i + 1 + j by omega]; exact he)
      rw [show i + (j + 1) = i + 1 + j by omega] at this
      exact this
    refine ⟨ds, e2, ?_, by rw [List.length_cons, show i + (xs.length + 1) = i + 1 + xs.length by omega]; exact h4, by rw [h5]; simp; omega, h6⟩
    simp only [lcL, h1]
    rw [if_pos (by simp at hl; omega)]
    exact h3
/-- a comprehension that takes none -/
theorem lcL_none {f : D → Env → Option (Option D × Env)} (P : Env → Prop) : ∀ {xs acc : List D} {e : Env}, P e → (∀ x ∈ xs, ∀ e, P e → ∃ e', f x e = some (none, e') ∧ P e') → ∃ e', lcL f xs acc e = some (acc, e') ∧ P e'
  | [], acc, e, h, _ => ⟨e, rfl, h⟩
  | x :: xs, acc, e, h, k => by
    obtain ⟨e1, h1, h2⟩ := k x List.mem_cons_self e h
    obtain ⟨e2, h3, h4⟩ := lcL_none P (xs := xs) (acc := acc) h2 fun y hy => k y (List.mem_cons_of_mem _ hy)
    exact ⟨e2, by simp only [lcL, h1]; exact h3, h4⟩
/-! ### primitives -/
theorem v_add (i j : Int) : P.ev .add [.int i, .int j] = some (.int (i + j)) := rfl
theorem v_adds (x y : Str) : P.ev .add [.str x, .str y] = if x.length + y.length ≤ sLine then some (.str (x ++ y)) else none := rfl
theorem v_addl (o o' : Bool) (x y : List D) : P.ev .add [.nd .lst o x, .nd .lst o' y] = if fzs x && fzs y && decide (x.length + y.length ≤ sLine) then some (.ol (x ++ y)) else none := rfl
theorem v_sub (i j : Int) : P.ev .sub [.int i, .int j] = some (.int (i - j)) := rfl
theorem v_mul (i j : Int) : P.ev .mul [.int i, .int j] = if (-(2 ^ 64) < i ∧ i < 2 ^ 64) ∨ (-(2 ^ 64) < j ∧ j < 2 ^ 64) then some (.int (i * j)) else none := rfl
theorem v_fdiv (i j : Int) : P.ev .fdiv [.int i, .int j] = if 0 < j ∧ j < 1073741824 then some (.int (i / j)) else none := rfl
theorem v_mod (i j : Int) : P.ev .mod [.int i, .int j] = if 0 < j then some (.int (i % j)) else none := rfl
theorem v_pow (i j : Int) : P.ev .pow [.int i, .int j] = if 0 ≤ j ∧ j ≤ 1000000 ∧ i.natAbs < 2 ^ 64 then some (.int (i ^ j.toNat)) else none := rfl
theorem v_neg (i : Int) : P.ev .neg [.int i] = some (.int (-i)) := rfl
theorem v_lt (i j : Int) : P.ev .lt [.int i, .int j] = some (.bl (decide (i < j))) := rfl
theorem v_le (i j : Int) : P.ev .le [.int i, .int j] = some (.bl (decide (i ≤ j))) := rfl
theorem v_gt (i j : Int) : P.ev .gt [.int i, .int j] = some (.bl (decide (j < i))) := rfl
theorem v_ge (i j : Int) : P.ev .ge [.int i, .int j] = some (.bl (decide (j ≤ i))) := rfl
theorem v_eqi (i j : Int) : P.ev .eq [.int i, .int j] = some (.bl (decide (i = j))) := rfl
theorem v_nei (i j : Int) : P.ev .ne [.int i, .int j] = some (.bl (!(decide (i = j)))) := rfl
theorem v_eqs (i j : Str) : P.ev .eq [.str i, .str j] = some (.bl (decide (i = j))) := rfl
theorem v_nes (i j : Str) : P.ev .ne [.str i, .str j] = some (.bl (!(decide (i = j)))) := rfl
theorem v_eqb (i j : Bool) : P.ev .eq [.bl i, .bl j] = some (.bl (i == j)) := rfl
theorem v_neb (i j : Bool) : P.ev .ne [.bl i, .bl j] = some (.bl (!(i == j))) := rfl
theorem v_lenl (o : Bool) (xs : List D) : P.ev .len [.nd .lst o xs] = some (.int xs.length) := rfl
theorem v_lent (o : Bool) (xs : List D) : P.ev .len [.nd .tup o xs] = some (.int xs.length) := rfl
theorem v_lenr (o : Bool) (xs : List D) : P.ev .len [.nd .scr o xs] = some (.int xs.length) := rfl
theorem v_lens (z : Str) : P.ev .len [.str z] = if z.length ≤ sLine then some (.int z.length) else none := rfl
theorem v_list (o : Bool) (xs : List D) : P.ev .list_ [.nd .lst o xs] = if fzs xs then some (.ol xs) else none := rfl
theorem v_rev (o : Bool) (xs : List D) : P.ev .rev_ [.nd .lst o xs] = if fzs xs then some (.ol xs.reverse) else none := rfl
theorem v_listr (o : Bool) (xs : List D) : P.ev .list_ [.nd .scr o xs] = if fzs xs then some (.ol xs) else none := rfl
theorem v_isi (t : Ty) (cs : List Nat) (z : Str) : P.ev (.isi t cs) [.str z] = ((D.str z).isTy t).map .bl := rfl
theorem v_isiI (t : Ty) (cs : List Nat) (z : Int) : P.ev (.isi t cs) [.int z] = ((D.int z).isTy t).map .bl := rfl
theorem v_isiB (t : Ty) (cs : List Nat) (z : Bool) : P.ev (.isi t cs) [.bl z] = ((D.bl z).isTy t).map .bl := rfl
theorem v_isiN (t : Ty) (cs : List Nat) : P.ev (.isi t cs) [.non] = (D.non.isTy t).map .bl := rfl
theorem v_isiL (t : Ty) (cs : List Nat) (o : Bool) (xs : List D) : P.ev (.isi t cs) [.nd .lst o xs] = ((D.nd .lst o xs).isTy t).map .bl := rfl
theorem v_isiT (t : Ty) (cs : List Nat) (o : Bool) (xs : List D) : P.ev (.isi t cs) [.nd .tup o xs] = ((D.nd .tup o xs).isTy t).map .bl := rfl
theorem v_isiK (t : Ty) (cs : List Nat) (o : Bool) (xs : List D) : P.ev (.isi t cs) [.nd .kt o xs] = ((D.nd .kt o xs).isTy t).map .bl := rfl
theorem v_isiC (t : Ty) (cs : List Nat) (c : Nat) (ns : List Str) (o : Bool) (xs : List D) : P.ev (.isi t cs) [.nd (.ins c ns) o xs] = if cs.contains c then some (.bl false) else none := rfl
theorem v_strs (z : Str) : P.ev .str_ [.str z] = some (.str z) := rfl
theorem v_mull (o : Bool) (xs : List D) (j : Int) : P.ev .mul [.nd .lst o xs, .int j] = if fzs xs = true ∧ -(2 ^ 63) ≤ j ∧ j < 2 ^ 63 ∧ xs.length * j.toNat ≤ sLine then some (.ol (List.replicate j.toNat xs).flatten) else none := rfl
theorem v_isn (d : D) : P.ev .isn [d] = some (.bl (match d with | .non => true | _ => false)) := rfl
theorem v_notn (d : D) : P.ev .notn [d] = some (.bl (match d with | .non => false | _ => true)) := rfl
theorem v_min (i j : Int) : P.ev .min2 [.int i, .int j] = some (.int (if j < i then j else i)) := rfl
theorem v_max (i j : Int) : P.ev .max2 [.int i, .int j] = some (.int (if j > i then j else i)) := rfl
theorem v_slLl (o : Bool) (xs : List D) (i : Int) : P.ev (.sl true false) [.nd .lst o xs, .int i] = if fzs xs then some (.ol (cutP xs (some i) none)) else none := rfl
theorem v_slHl (o : Bool) (xs : List D) (i : Int) : P.ev (.sl false true) [.nd .lst o xs, .int i] = if fzs xs then some (.ol (cutP xs none (some i))) else none := rfl
theorem v_slBl (o : Bool) (xs : List D) (i j : Int) : P.ev (.sl true true) [.nd .lst o xs, .int i, .int j] = if fzs xs then some (.ol (cutP xs (some i) (some j))) else none := rfl
theorem v_slLr (o : Bool) (xs : List D) (i : Int) : P.ev (.sl true false) [.nd .scr o xs, .int i] = if fzs xs then some (.ol (cutP xs (some i) none)) else none := rfl
theorem v_slHr (o : Bool) (xs : List D) (i : Int) : P.ev (.sl false true) [.nd .scr o xs, .int i] = if fzs xs then some (.ol (cutP xs none (some i))) else none := rfl
theorem v_slLs (z : Str) (i : Int) : P.ev (.sl true false) [.str z, .int i] = if z.length ≤ sLine then some (.str ⟨(cutP z.cps.toList (some i) none).toArray⟩) else none := rfl
theorem v_slHs (z : Str) (i : Int) : P.ev (.sl false true) [.str z, .int i] = if z.length ≤ sLine then some (.str ⟨(cutP z.cps.toList none (some i)).toArray⟩) else none := rfl
theorem fzs_ints (ns : List Int) : fzs (ns.map D.int) = true := by
  induction ns with
  | nil => rfl
  | cons n ns ih => simp [ih]
theorem frs_ints (ns : List Int) : frs (ns.map D.int) = ns.map D.int := by
  induction ns with
  | nil => rfl
  | cons n ns ih => simp [ih]
theorem cutP_map {α β : Type} (f : α → β) (xs : List α) (lo hi : Option Int) : cutP (xs.map f) lo hi = (cutP xs lo hi).map f := by
  simp [cutP, List.map_drop, List.map_take]
theorem eqs_ints (n : Nat) : ∀ (a b : List Int), eqs (D.eqv n) (a.map D.int) (b.map D.int) = some (a == b)
  | [], [] => rfl
  | [], _ :: _ => rfl
  | _ :: _, [] => rfl
  | x :: a, y :: b => by
    have h : D.eqv n (.int x) (.int y) = some (x == y) := by cases n <;> rfl
    simp only [List.map_cons, eqs, eqi, tagEq, h, eqs_ints n a b, Bool.false_eq_true, if_false]
    rfl
theorem v_eql (o o' : Bool) (a b : List Int) : P.ev .eq [.nd .lst o (a.map .int), .nd .lst o' (b.map .int)] = some (.bl (decide (a = b))) := by
  rw [show decide (a = b) = (a == b) from (Bool.beq_eq_decide_eq a b).symm]
  show ((D.eqv 60 _ _).map D.bl) = _
  simp [D.eqv, Kd.sq, eqs_ints]
theorem v_nel (o o' : Bool) (a b : List Int) : P.ev .ne [.nd .lst o (a.map .int), .nd .lst o' (b.map .int)] = some (.bl (!(decide (a = b)))) := by
  rw [show decide (a = b) = (a == b) from (Bool.beq_eq_decide_eq a b).symm]
  show ((D.eqv 60 _ _).map fun k => D.bl (!k)) = _
  simp [D.eqv, Kd.sq, eqs_ints]
theorem v_eql0 (o o' : Bool) (a : List Int) : P.ev .eq [.nd .lst o (a.map .int), .nd .lst o' []] = some (.bl (decide (a = []))) := v_eql o o' a []
/-! ### places -/
theorem ixP_nat {n j : Nat} (h : j < n) : ixP n (j : Int) = some j := by
  unfold ixP
  rw [if_pos (by omega), if_pos (by omega)]
  simp
theorem ixP_int {n : Nat} {i : Int} (h0 : 0 ≤ i) (h : i < n) : ixP n i = some i.toNat := by
  unfold ixP
  rw [if_pos h0, if_pos h]
theorem nl1 (n : Nat) : ((n : Int) + 1 = 0) = False := eq_false (by omega)
theorem nl2 (n : Nat) : (0 < (n : Int) + 1) = True := eq_true (by omega)
theorem nl3 (n : Nat) : (0 ≤ (n : Int)) = True := by simp
theorem cut_tail {α : Type} (xs : List α) : cutP xs (some 1) none = xs.tail := by
  cases xs with
  | nil => rfl
  | cons x xs => simp [cutP, sIxP, show min (1 : Nat) (xs.length + 1) = 1 by omega]
theorem sIxP_nat (n d k : Nat) : sIxP n d (some (k : Int)) = min k n := by
  have h : ¬ ((k : Int) < 0) := by omega
  simp [sIxP, h]
theorem cut_to {α : Type} (xs : List α) (n : Nat) : cutP xs none (some (n : Int)) = xs.take n := by
  have h : sIxP xs.length xs.length (some (n : Int)) = min n xs.length := sIxP_nat _ _ _
  unfold cutP
  rw [h]
  simp only [sIxP, List.drop_zero, Nat.sub_zero]
  by_cases z : n ≤ xs.length
  · rw [Nat.min_eq_left z]
  · rw [Nat.min_eq_right (by omega), List.take_of_length_le (by omega), List.take_of_length_le (by omega)]
theorem cut_from {α : Type} (xs : List α) (n : Nat) : cutP xs (some (n : Int)) none = xs.drop n := by
  have h : sIxP xs.length 0 (some (n : Int)) = min n xs.length := sIxP_nat _ _ _
  unfold cutP
  rw [h]
  simp only [sIxP]
  by_cases z : n ≤ xs.length
  · rw [Nat.min_eq_left z, List.take_of_length_le (by simp)]
  · rw [Nat.min_eq_right (by omega), List.drop_of_length_le (by omega), List.drop_of_length_le (by omega)]; simp
theorem cut_btw {α : Type} (xs : List α) (n m : Nat) : cutP xs (some (n : Int)) (some (m : Int)) = (xs.take m).drop n := by
  unfold cutP
  rw [sIxP_nat, sIxP_nat, List.drop_take]
  by_cases z : n ≤ xs.length
  · rw [Nat.min_eq_left z]
    by_cases z2 : m ≤ xs.length
    · rw [Nat.min_eq_left z2]
    · rw [Nat.min_eq_right (show xs.length ≤ m by omega), List.take_of_length_le (by simp), List.take_of_length_le (by simp; omega)]
  · rw [Nat.min_eq_right (show xs.length ≤ n by omega), List.drop_of_length_le (by omega), List.drop_of_length_le (by omega)]; simp
/-! ### the constructs, one equation each (loops' bodies stay closed) -/
section
variable (G : Sig) (c : Cl) (e : Env)
def forB (tg : Tg) (b : Sms) (x : D) (e : Env) : Option Out := match bindTg e x tg with
  | some e => b.ev G c e
  | none => none
def lcB (tg : Tg) (cd el : Ex) (x : D) (e : Env) : Option (Option D × Env) := match bindTg e x tg with
  | some e => match bool1 (cd.ev G c e) with
    | some (true, e) => match tm1 (el.ev G c e) with
      | some (d, e) => some (some d, wipeE e tg)
      | none => none
    | some (false, e) => some (none, wipeE e tg)
    | none => none
  | none => none
def whC (t : Ex) (e : Env) : Option (Bool × Env) := bool1 (t.ev G c e)
def whB (b : Sms) (e : Env) : Option Out := b.ev G c e
theorem sms_nil : Sms.nil.ev G c e = some (.nx e) := rfl
theorem sms_cons (s : Sm) (r : Sms) : (Sms.cons s r).ev G c e = (match s.ev G c e with
  | some (.nx e1) => r.ev G c e1
  | o => o) := rfl
theorem sm_asg (tg : Tg) (a : Ex) : (Sm.asg tg a).ev G c e = (match tm1 (a.ev G c e) with
  | some (d, e1) => (match bindTg e1 d tg with
    | some e2 => some (.nx e2)
    | none => none)
  | none => none) := rfl
theorem sm_sub (a b v : Ex) : (Sm.sub a b v).ev G c e = (match tm1 (v.ev G c e) with
  | some (d, e1) => (match a.ev G c e1 with
    | some (r, e2) => (match b.ev G c e2 with
      | some (k, e3) => (match k.get e3 with
        | some (.int k) => (match putR e3 r k d with
          | some e4 => some (.nx e4)
          | none => none)
        | _ => none)
      | none => none)
    | none => none)
  | none => none) := rfl
theorem sm_sfld (a : Ex) (n : Str) (v : Ex) : (Sm.sfld a n v).ev G c e = (match tm1 (v.ev G c e) with
  | some (d, e1) => (match a.ev G c e1 with
    | some (r, e2) => (match wrF G.flds e2 r n d with
      | some e3 => some (.nx e3)
      | none => none)
    | none => none)
  | none => none) := rfl
theorem sm_nev : Sm.nev.ev G c e = none := rfl
theorem sm_expr (a : Ex) : (Sm.expr a).ev G c e = (match a.ev G c e with
  | some (_, e1) => some (.nx e1)
  | none => none) := rfl
theorem sm_iff (t : Ex) (a b : Sms) : (Sm.iff t a b).ev G c e = (match bool1 (t.ev G c e) with
  | some (true, e1) => a.ev G c e1
  | some (false, e1) => b.ev G c e1
  | none => none) := rfl
theorem sm_for (tg : Tg) (it : It) (b : Sms) : (Sm.for_ tg it b).ev G c e = (match it.ev G c e with
  | some (xs, e1) => forL (forB G c tg b) xs e1
  | none => none) := rfl
theorem sm_whil (t : Ex) (b : Sms) : (Sm.whil t b).ev G c e = whileL (whC G c t) (whB G c b) G.turns e := rfl
theorem sm_ret (a : Ex) : (Sm.ret a).ev G c e = (match tm1 (a.ev G c e) with
  | some (d, e1) => some (.ret d e1)
  | none => none) := rfl
theorem sm_retn : Sm.retn.ev G c e = some (.ret .non e) := rfl
theorem sm_brk : Sm.brk.ev G c e = some (.brk e) := rfl
theorem sm_pass : Sm.pass.ev G c e = some (.nx e) := rfl
theorem ex_con (k : Cn) : (Ex.con k).ev G c e = some (.tm k.d, e) := rfl
theorem ex_glo (x : Str) : (Ex.glo x).ev G c e = (match G.consts.lookup x with
  | some d => some (.tm d, e)
  | none => none) := rfl
theorem ex_kix (x : Str) (b : Ex) : (Ex.kix x b).ev G c e = (match b.ev G c e with
  | some (r, e1) => (match r.get e1 with
    | some (.str z) => (match G.dcts.lookup x with
      | some kv => (match kv.lookup z with
        | some d => some (.tm d, e1)
        | none => none)
      | none => none)
    | _ => none)
  | none => none) := rfl
theorem ex_dlit (kvs : List (Key × Cn)) : (Ex.dlit kvs).ev G c e = some (.tm (.nd (.dK (kvs.map Prod.fst)) true (kvs.map fun p => p.2.d)), e) := rfl
theorem ex_var (i : Nat) : (Ex.var i).ev G c e = (match gt e i with
  | some d => some (.tm d.fr, e.set i (some d.fr))
  | none => none) := rfl
theorem ex_vz (i : Nat) : (Ex.vz i).ev G c e = (match gt e i with
  | some d => if d.fz then some (.tm d, e) else none
  | none => none) := rfl
theorem ex_pk (i : Nat) : (Ex.pk i).ev G c e = (match gt e i with
  | some _ => some (.sl i, e)
  | none => none) := rfl
theorem ex_mv (i : Nat) : (Ex.mv i).ev G c e = (match gt e i with
  | some d => some (.tm d, e.set i none)
  | none => none) := rfl
theorem ex_cs (i : Nat) (a : Ex) : (Ex.cs i a).ev G c e = (match a.ev G c e with
  | some (.tm d, e1) => some (.tm d, e1)
  | some (.sn _ _ _, _) => (match gt e i with
    | some d => (match a.ev G c (e.set i (some d.fr)) with
      | some (.tm d, e1) => some (.tm d, e1)
      | _ => none)
    | none => none)
  | _ => none) := rfl
theorem ex_prim (p : P) (as : Exs) : (Ex.prim p as).ev G c e = (match as.ev G c e with
  | some (rs, e1) => (match gets e1 rs with
    | some ds => (match p.ev ds with
      | some d => some (.tm d, e1)
      | none => none)
    | none => none)
  | none => none) := rfl
theorem ex_ix (a b : Ex) : (Ex.ix a b).ev G c e = (match a.ev G c e with
  | some (r, e1) => (match b.ev G c e1 with
    | some (k, e2) => (match k.get e2 with
      | some kd => (match ixR e2 r kd with
        | some r' => some (r', e2)
        | none => none)
      | none => none)
    | none => none)
  | none => none) := rfl
theorem ex_tup (as : Exs) : (Ex.tup as).ev G c e = (match as.ev G c e with
  | some (rs, e1) => (match tms rs with
    | some ds => if ds.length ≤ sLine then some (.tm (.tup ds), e1) else none
    | none => none)
  | none => none) := rfl
theorem ex_lst (as : Exs) : (Ex.lst as).ev G c e = (match as.ev G c e with
  | some (rs, e1) => (match tms rs with
    | some ds => if ds.length ≤ sLine then some (.tm (.ol ds), e1) else none
    | none => none)
  | none => none) := rfl
theorem ex_nott (a : Ex) : (Ex.nott a).ev G c e = (match bool1 (a.ev G c e) with
  | some (b, e1) => some (.tm (.bl (!b)), e1)
  | none => none) := rfl
theorem ex_ands (a b : Ex) : (Ex.ands a b).ev G c e = (match bool1 (a.ev G c e) with
  | some (true, e1) => (match bool1 (b.ev G c e1) with
    | some (k, e2) => some (.tm (.bl k), e2)
    | none => none)
  | some (false, e1) => some (.tm (.bl false), e1)
  | none => none) := rfl
theorem ex_ors (a b : Ex) : (Ex.ors a b).ev G c e = (match bool1 (a.ev G c e) with
  | some (false, e1) => (match bool1 (b.ev G c e1) with
    | some (k, e2) => some (.tm (.bl k), e2)
    | none => none)
  | some (true, e1) => some (.tm (.bl true), e1)
  | none => none) := rfl
theorem ex_ite (t a b : Ex) : (Ex.ite t a b).ev G c e = (match bool1 (t.ev G c e) with
  | some (true, e1) => (tm1 (a.ev G c e1)).map fun p => (.tm p.1, p.2)
  | some (false, e1) => (tm1 (b.ev G c e1)).map fun p => (.tm p.1, p.2)
  | none => none) := rfl
theorem ex_chain (p q : P) (a b z : Ex) : (Ex.chain p q a b z).ev G c e = (match a.ev G c e with
  | some (ra, e1) => (match b.ev G c e1 with
    | some (rb, e2) => (match ra.get e2, rb.get e2 with
      | some da, some db => (match p.ev [da, db] with
        | some (.bl true) => (match z.ev G c e2 with
          | some (rz, e3) => (match rb.get e3, rz.get e3 with
            | some db, some dz => (match q.ev [db, dz] with
              | some (.bl k) => some (.tm (.bl k), e3)
              | _ => none)
            | _, _ => none)
          | none => none)
        | some (.bl false) => some (.tm (.bl false), e2)
        | _ => none)
      | _, _ => none)
    | none => none)
  | none => none) := rfl
theorem ex_call (f : Nat) (as : Exs) (df : List Cn) : (Ex.call f as df).ev G c e = (match as.ev G c e with
  | some (rs, e1) => (match gets e1 rs with
    | some ds => if lentOk e1 rs [] then (match c f (ds ++ df.map Cn.d) with
      | some (d, ds') => some (.tm d, back e1 rs ds')
      | none => none)
      else none
    | none => none)
  | none => none) := rfl
theorem ex_fld (a : Ex) (n : Str) : (Ex.fld a n).ev G c e = (match a.ev G c e with
  | some (r, e1) => (match fldR G.flds e1 r n with
    | some r' => some (r', e1)
    | none => none)
  | none => none) := rfl
theorem ex_meth (m : Str) (a : Ex) (as : Exs) : (Ex.meth m a as).ev G c e = (match a.ev G c e with
  | some (r, e1) => (match r.get e1 with
    | some (.nd (.ins ci ns) _ _) => if ns.contains m then none else (match G.meths ci m with
      | some f => (match as.ev G c e1 with
        | some (rs, e2) => (match gets e2 (r :: rs) with
          | some ds => if lentOk e2 (r :: rs) [] then (match c f ds with
            | some (d, ds') => some (.tm d, back e2 (r :: rs) ds')
            | none => none)
            else none
          | none => none)
        | none => none)
      | none => none)
    | _ => none)
  | none => none) := rfl
theorem ex_new (ci : Nat) (as : Exs) : (Ex.new ci as).ev G c e = (if ci < 1000 then (match as.ev G c e with
  | some (rs, e1) => (match gets e1 rs with
    | some ds => (match G.init ci with
      | some f => if lentOk e1 rs [] then (match c f (.nd (.ins ci []) true [] :: ds) with
        | some (.non, self :: ds') => some (.tm self, back e1 rs ds')
        | _ => none)
        else none
      | none => (match ds with
        | [] => some (.tm (.nd (.ins ci []) true []), e1)
        | _ => none))
    | none => none)
  | none => none) else none) := rfl
theorem ex_mut (a : Ex) (m : M) (as : Exs) : (Ex.mut a m as).ev G c e = (match a.ev G c e with
  | some (r, e1) => (match r.get e1 with
    | some (.nd .lst true _) => (match as.ev G c e1 with
      | some (rs, e2) => (match tms rs with
        | some ds => (match mutR e2 r m ds with
          | some (d, e3) => some (.tm d, e3)
          | none => none)
        | none => none)
      | none => none)
    | _ => none)
  | none => none) := rfl
theorem ex_lc (tg : Tg) (it : It) (cd el : Ex) : (Ex.lc tg it cd el).ev G c e = (match it.ev G c e with
  | some (xs, e1) => (match lcL (lcB G c tg cd el) xs [] (wipeE e1 tg) with
    | some (ds, e2) => some (.tm (.ol ds), e2)
    | none => none)
  | none => none) := rfl
theorem exs_nil : Exs.nil.ev G c e = some ([], e) := rfl
theorem exs_cons (a : Ex) (as : Exs) : (Exs.cons a as).ev G c e = (match a.ev G c e with
  | some (r, e1) => (match as.ev G c e1 with
    | some (rs, e2) => some (r :: rs, e2)
    | none => none)
  | none => none) := rfl
theorem it_seq (a : Ex) : (It.seq a).ev G c e = (match a.ev G c e with
  | some (r, e1) => (match r.get e1 with
    | some d => (itemsT r d).map (·, e1)
    | none => none)
  | none => none) := rfl
theorem it_enum (a : Ex) : (It.enum a).ev G c e = (match a.ev G c e with
  | some (r, e1) => (match r.get e1 with
    | some d => (enumT r d).map (·, e1)
    | none => none)
  | none => none) := rfl
theorem it_rng1 (a : Ex) : (It.rng1 a).ev G c e = (match a.ev G c e with
  | some (r, e1) => (match r.get e1 with
    | some (.int j) => (rngL 0 j).map (·, e1)
    | _ => none)
  | none => none) := rfl
theorem it_rng2 (a b : Ex) : (It.rng2 a b).ev G c e = (match a.ev G c e with
  | some (r, e1) => (match b.ev G c e1 with
    | some (q, e2) => (match r.get e2, q.get e2 with
      | some (.int i), some (.int j) => (rngL i j).map (·, e2)
      | _, _ => none)
    | none => none)
  | none => none) := rfl
end
theorem evF_at {G : Sig} {fns : List Fn} {k f : Nat} {fn : Fn} {ds : List D} (h : fns[f]? = some fn) (hl : ds.length = fn.np) : evF G fns (k + 1) f ds = (match fn.body.ev G (evF G fns k) (startE fn ds) with
  | some (.nx e) => (endDs fn e 0 ds).map (.non, ·)
  | some (.ret d e) => (endDs fn e 0 ds).map (d, ·)
  | _ => none) := by
  show (match fns[f]? with
    | none => none
    | some fn => if ds.length = fn.np then _ else none) = _
  rw [h]
  simp only
  rw [if_pos hl]
  all_goals rfl
theorem items_l (o : Bool) (xs : List D) : items (.nd .lst o xs) = if fzs xs then some xs else none := rfl
theorem items_t (o : Bool) (xs : List D) : items (.nd .tup o xs) = if fzs xs then some xs else none := rfl
theorem items_r (o : Bool) (xs : List D) : items (.nd .scr o xs) = if fzs xs then some xs else none := rfl
theorem items_s (z : Str) : items (.str z) = some (z.cps.toList.map fun c => .str ⟨#[c]⟩) := rfl
theorem rngL_nat (n : Nat) (h : n < 2 ^ 62) : rngL 0 (n : Int) = some ((List.range n).map fun (k : Nat) => D.int (k : Int)) := by
  unfold rngL
  rw [if_pos (by omega)]
  simp
theorem md0 (a : Int) (m : Nat) : 0 ≤ a % ((m + 1 : Nat) : Int) := Int.emod_nonneg a (by omega)
theorem md1 (a : Int) (m : Nat) : a % ((m + 1 : Nat) : Int) < ((m + 1 : Nat) : Int) := Int.emod_lt_of_pos a (by omega)
/-- the rows behind the first -/
def tl : Sms → Sms
  | .cons _ r => r
  | .nil => .nil
def hd : Sms → Sm
  | .cons s _ => s
  | .nil => .pass
theorem ints_of {ds : List D} (h : ∀ d ∈ ds, ∃ z, d = D.int z) : ∃ cs : List Int, ds = cs.map D.int := by
  induction ds with
  | nil => exact ⟨[], rfl⟩
  | cons d ds ih =>
    obtain ⟨cs, rfl⟩ := ih fun x hx => h x (List.mem_cons_of_mem _ hx)
    obtain ⟨z, rfl⟩ := h d List.mem_cons_self
    exact ⟨z :: cs, rfl⟩
theorem v_join (s : Str) (o : Bool) (xs : List D) {ys : List Str} (h : strsOf xs = some ys) (hl : (ys.map fun y => y.length).sum + ys.length * s.length ≤ sLine) : P.ev .join [.str s, .nd .lst o xs] = some (.str (PySem.Str.join s ys)) := by
  simp only [P.ev, asSeq, h]
  rw [if_pos hl]
/-- a loop that goes through, or ends at the first item that is none of p -/
theorem forL_ret {f : D → Env → Option Out} (p : D → Bool) (d0 : D) (P : Env → Prop) : ∀ {xs : List D} {e : Env}, P e → (∀ x ∈ xs, ∀ e, P e → ∃ e', P e' ∧ f x e = some (if p x = true then .nx e' else .ret d0 e')) →
    ∃ e', P e' ∧ forL f xs e = some (if xs.all p = true then .nx e' else .ret d0 e')
  | [], e, h, _ => ⟨e, h, rfl⟩
  | x :: xs, e, h, k => by
    obtain ⟨e1, h1, h2⟩ := k x List.mem_cons_self e h
    by_cases hp : p x = true
    · rw [if_pos hp] at h2
      obtain ⟨e2, h3, h4⟩ := forL_ret p d0 P (xs := xs) h1 fun y hy => k y (List.mem_cons_of_mem _ hy)
      exact ⟨e2, h3, by simp only [forL, h2]; rw [h4]; simp [hp]⟩
    · rw [if_neg hp] at h2
      exact ⟨e1, h1, by simp only [forL, h2]; simp [hp]⟩
theorem v_nots (c : Nat) (s : Str) : P.ev .notin [.str ⟨#[c]⟩, .str s] = some (.bl (!decide (c ∈ s.cps.toList))) := rfl
/-- a sign, among those of s -/
def inS (s : Str) : D → Bool
  | .str x => (match x.cps.toList with
    | [k] => decide (k ∈ s.cps.toList)
    | _ => false)
  | _ => false
def sgs (z : Str) : List D := z.cps.toList.map fun c => D.str ⟨#[c]⟩
end TK
namespace TK
namespace K03
open PySem
def f_is_name_b0 : Sms := (.cons (.iff (.prim .notin (.cons (.pk 1) (.cons (.glo ("LETTERS" : Str)) .nil))) (.cons (.ret (.con (.bl false))) .nil) .nil) .nil)
def f_is_name : Fn := { np := 1, prot := [0], ns := 2, body :=
(.cons (.for_ (.nm 1) (.seq (.pk 0)) f_is_name_b0) (.cons (.ret (.chain .lt .lt (.con (.int (0))) (.prim .len (.cons (.pk 0) .nil)) (.con (.int (9))))) .nil)) }
def f_is_number_b0 : Sms := (.cons (.iff (.prim .notin (.cons (.pk 1) (.cons (.glo ("FIGURES" : Str)) .nil))) (.cons (.ret (.con (.bl false))) .nil) .nil) .nil)
def f_is_number : Fn := { np := 1, prot := [0], ns := 2, body :=
(.cons (.for_ (.nm 1) (.seq (.pk 0)) f_is_number_b0) (.cons (.ret (.ands (.chain .lt .lt (.con (.int (0))) (.prim .len (.cons (.pk 0) .nil)) (.con (.int (4)))) (.ors (.prim .eq (.cons (.pk 0) (.cons (.con (.str ("0" : Str))) .nil))) (.prim .ne (.cons (.ix (.pk 0) (.con (.int (0)))) (.cons (.con (.str ("0" : Str))) .nil)))))) .nil)) }
def f_row_of_b0 : Sms := (.cons (.iff (.prim .eq (.cons (.ix (.pk 2) (.con (.int (0)))) (.cons (.pk 1) .nil))) (.cons (.ret (.var 2)) .nil) .nil) .nil)
def f_row_of : Fn := { np := 2, prot := [0, 1], ns := 3, body :=
(.cons (.for_ (.nm 2) (.seq (.pk 0)) f_row_of_b0) (.cons (.ret (.con .non)) .nil)) }
def f_word_at : Fn := { np := 2, prot := [0, 1], ns := 2, body :=
(.cons (.iff (.prim .ge (.cons (.pk 1) (.cons (.prim .len (.cons (.pk 0) .nil)) .nil))) (.cons .nev .nil) .nil) (.cons (.ret (.cs 0 (.ix (.pk 0) (.pk 1)))) .nil)) }
def f_name_at : Fn := { np := 2, prot := [0, 1], ns := 2, body :=
(.cons (.iff (.nott (.call 0 (.cons (.call 3 (.cons (.pk 0) (.cons (.pk 1) .nil)) []) .nil) [])) (.cons .nev .nil) .nil) (.cons (.ret (.cs 0 (.ix (.pk 0) (.pk 1)))) .nil)) }
def f_number_at : Fn := { np := 2, prot := [0, 1], ns := 2, body :=
(.cons (.iff (.nott (.call 1 (.cons (.call 3 (.cons (.pk 0) (.cons (.pk 1) .nil)) []) .nil) [])) (.cons .nev .nil) .nil) (.cons (.ret (.prim .int_ (.cons (.ix (.pk 0) (.pk 1)) .nil))) .nil)) }
def f_part_at : Fn := { np := 3, prot := [0, 1, 2], ns := 9, body :=
(.cons (.iff (.prim .eq (.cons (.pk 2) (.cons (.con (.int (0))) .nil))) (.cons .nev .nil) .nil) (.cons (.asg (.nm 3) (.call 3 (.cons (.pk 0) (.cons (.pk 1) .nil)) [])) (.cons (.iff (.prim .eq (.cons (.pk 3) (.cons (.con (.str ("all" : Str))) .nil))) (.cons (.ret (.tup (.cons (.new 0 .nil) (.cons (.prim .add (.cons (.pk 1) (.cons (.con (.int (1))) .nil))) (.cons (.prim .sub (.cons (.pk 2) (.cons (.con (.int (1))) .nil))) .nil))))) .nil) .nil) (.cons (.iff (.prim .eq (.cons (.pk 3) (.cons (.con (.str ("self" : Str))) .nil))) (.cons (.ret (.tup (.cons (.new 1 .nil) (.cons (.prim .add (.cons (.pk 1) (.cons (.con (.int (1))) .nil))) (.cons (.prim .sub (.cons (.pk 2) (.cons (.con (.int (1))) .nil))) .nil))))) .nil) .nil) (.cons (.iff (.prim .eq (.cons (.pk 3) (.cons (.con (.str ("mine" : Str))) .nil))) (.cons (.ret (.tup (.cons (.new 2 .nil) (.cons (.prim .add (.cons (.pk 1) (.cons (.con (.int (1))) .nil))) (.cons (.prim .sub (.cons (.pk 2) (.cons (.con (.int (1))) .nil))) .nil))))) .nil) .nil) (.cons (.iff (.prim .eq (.cons (.pk 3) (.cons (.con (.str ("mark" : Str))) .nil))) (.cons (.ret (.tup (.cons (.new 3 (.cons (.call 4 (.cons (.pk 0) (.cons (.prim .add (.cons (.pk 1) (.cons (.con (.int (1))) .nil))) .nil)) []) .nil)) (.cons (.prim .add (.cons (.pk 1) (.cons (.con (.int (2))) .nil))) (.cons (.prim .sub (.cons (.pk 2) (.cons (.con (.int (1))) .nil))) .nil))))) .nil) .nil) (.cons (.iff (.prim .eq (.cons (.pk 3) (.cons (.con (.str ("force" : Str))) .nil))) (.cons (.ret (.tup (.cons (.new 4 (.cons (.call 5 (.cons (.pk 0) (.cons (.prim .add (.cons (.pk 1) (.cons (.con (.int (1))) .nil))) .nil)) []) .nil)) (.cons (.prim .add (.cons (.pk 1) (.cons (.con (.int (2))) .nil))) (.cons (.prim .sub (.cons (.pk 2) (.cons (.con (.int (1))) .nil))) .nil))))) .nil) .nil) (.cons (.iff (.prim .eq (.cons (.pk 3) (.cons (.con (.str ("not" : Str))) .nil))) (.cons (.asg (.tp [4, 5, 6]) (.call 6 (.cons (.pk 0) (.cons (.prim .add (.cons (.pk 1) (.cons (.con (.int (1))) .nil))) (.cons (.prim .sub (.cons (.pk 2) (.cons (.con (.int (1))) .nil))) .nil))) [])) (.cons (.ret (.tup (.cons (.new 5 (.cons (.pk 4) .nil)) (.cons (.var 5) (.cons (.var 6) .nil))))) .nil)) .nil) (.cons (.iff (.prim .notin (.cons (.pk 3) (.cons (.tup (.cons (.con (.str ("both" : Str))) (.cons (.con (.str ("any" : Str))) .nil))) .nil))) (.cons .nev .nil) .nil) (.cons (.asg (.tp [7, 5, 6]) (.call 6 (.cons (.pk 0) (.cons (.prim .add (.cons (.pk 1) (.cons (.con (.int (1))) .nil))) (.cons (.prim .sub (.cons (.pk 2) (.cons (.con (.int (1))) .nil))) .nil))) [])) (.cons (.asg (.tp [8, 5, 6]) (.call 6 (.cons (.pk 0) (.cons (.pk 5) (.cons (.pk 6) .nil))) [])) (.cons (.ret (.tup (.cons (.new 6 (.cons (.pk 3) (.cons (.pk 7) (.cons (.pk 8) .nil)))) (.cons (.var 5) (.cons (.var 6) .nil))))) .nil)))))))))))) }
def f_whom_at : Fn := { np := 2, prot := [0, 1], ns := 5, body :=
(.cons (.asg (.tp [2, 3, 4]) (.call 6 (.cons (.pk 0) (.cons (.pk 1) (.cons (.glo ("MOST_WORDS" : Str)) .nil))) [])) (.cons (.ret (.tup (.cons (.var 2) (.cons (.var 3) .nil)))) .nil)) }
def f_read_whom : Fn := { np := 1, prot := [0], ns := 4, body :=
(.cons (.iff (.nott (.prim (.isi .str [0, 1, 2, 3, 4, 5, 6]) (.cons (.pk 0) .nil))) (.cons .nev .nil) .nil) (.cons (.asg (.nm 1) (.prim .split (.cons (.pk 0) (.cons (.con (.str (" " : Str))) .nil)))) (.cons (.asg (.tp [2, 3]) (.call 7 (.cons (.pk 1) (.cons (.con (.int (0))) .nil)) [])) (.cons (.iff (.prim .ne (.cons (.pk 3) (.cons (.prim .len (.cons (.pk 1) .nil)) .nil))) (.cons .nev .nil) .nil) (.cons (.ret (.var 2)) .nil))))) }
def f_law_take : Fn := { np := 2, prot := [0, 1], ns := 5, body :=
(.cons (.asg (.nm 2) (.cs 0 (.ix (.pk 0) (.con (.int (0)))))) (.cons (.asg (.nm 3) (.cs 0 (.ix (.pk 0) (.con (.int (1)))))) (.cons (.sub (.pk 0) (.con (.int (1))) (.prim .add (.cons (.pk 3) (.cons (.con (.int (1))) .nil)))) (.cons (.asg (.nm 4) (.prim .mul (.cons (.prim .mul (.cons (.pk 3) (.cons (.pk 3) .nil))) (.cons (.con (.int (7919))) .nil)))) (.cons (.iff (.prim .gt (.cons (.prim .len (.cons (.pk 2) .nil)) (.cons (.con (.int (0))) .nil))) (.cons (.asg (.nm 4) (.prim .add (.cons (.prim .add (.cons (.pk 4) (.cons (.prim .mod (.cons (.ix (.pk 2) (.prim .mod (.cons (.pk 3) (.cons (.prim .len (.cons (.pk 2) .nil)) .nil)))) (.cons (.con (.int (2147483647))) .nil))) .nil))) (.cons (.prim .mul (.cons (.prim .fdiv (.cons (.pk 3) (.cons (.prim .len (.cons (.pk 2) .nil)) .nil))) (.cons (.con (.int (977))) .nil))) .nil)))) .nil) .nil) (.cons (.ret (.prim .mod (.cons (.prim .fdiv (.cons (.prim .mod (.cons (.prim .mul (.cons (.prim .add (.cons (.pk 4) (.cons (.con (.int (12345))) .nil))) (.cons (.con (.int (48271))) .nil))) (.cons (.con (.int (2147483629))) .nil))) (.cons (.con (.int (7))) .nil))) (.cons (.pk 1) .nil)))) .nil)))))) }
def f_law_names_c0 : Ex := (.con (.bl true))
def f_law_names_l0 : Ex := (.cs 2 (.ix (.pk 2) (.call 9 (.cons (.pk 0) (.cons (.con (.int (26))) .nil)) [])))
def f_law_names_b0 : Sms := (.cons (.asg (.nm 9) (.cs 2 (.ix (.pk 2) (.prim .mod (.cons (.prim .add (.cons (.pk 7) (.cons (.prim .mul (.cons (.con (.int (5))) (.cons (.pk 6) .nil))) .nil))) (.cons (.con (.int (26))) .nil)))))) (.cons (.expr (.mut (.pk 8) .append (.cons (.prim .add (.cons (.prim .add (.cons (.prim .join (.cons (.con (.str ("" : Str))) (.cons (.prim (.sl false true) (.cons (.pk 5) (.cons (.pk 4) .nil))) .nil))) (.cons (.pk 9) .nil))) (.cons (.prim .join (.cons (.con (.str ("" : Str))) (.cons (.prim (.sl true false) (.cons (.pk 5) (.cons (.prim .add (.cons (.pk 4) (.cons (.con (.int (1))) .nil))) .nil))) .nil))) .nil))) .nil))) .nil))
def f_law_names : Fn := { np := 2, prot := [0, 1], ns := 10, body :=
(.cons (.asg (.nm 2) (.con (.str ("abcdefghijklmnopqrstuvwxyz" : Str)))) (.cons (.asg (.nm 3) (.prim .add (.cons (.con (.int (1))) (.cons (.call 9 (.cons (.pk 0) (.cons (.con (.int (8))) .nil)) []) .nil)))) (.cons (.asg (.nm 4) (.call 9 (.cons (.pk 0) (.cons (.pk 3) .nil)) [])) (.cons (.asg (.nm 5) (.lc (.nm 6) (.rng1 (.pk 3)) f_law_names_c0 f_law_names_l0)) (.cons (.asg (.nm 7) (.call 9 (.cons (.pk 0) (.cons (.con (.int (26))) .nil)) [])) (.cons (.asg (.nm 8) (.lst .nil)) (.cons (.for_ (.nm 6) (.rng1 (.pk 1)) f_law_names_b0) (.cons (.ret (.var 8)) .nil)))))))) }
def f_law_leaf : Fn := { np := 2, prot := [0, 1], ns := 3, body :=
(.cons (.asg (.nm 2) (.call 9 (.cons (.pk 0) (.cons (.con (.int (7))) .nil)) [])) (.cons (.iff (.prim .lt (.cons (.pk 2) (.cons (.con (.int (3))) .nil))) (.cons (.ret (.lst (.cons (.con (.str ("mark" : Str))) (.cons (.ix (.prim .add (.cons (.pk 1) (.cons (.lst (.cons (.con (.str ("all" : Str))) (.cons (.con (.str ("do" : Str))) (.cons (.con (.str ("not" : Str))) (.cons (.con (.str ("mark" : Str))) .nil))))) .nil))) (.call 9 (.cons (.pk 0) (.cons (.prim .add (.cons (.prim .len (.cons (.pk 1) .nil)) (.cons (.con (.int (4))) .nil))) .nil)) [])) .nil)))) .nil) .nil) (.cons (.iff (.prim .lt (.cons (.pk 2) (.cons (.con (.int (5))) .nil))) (.cons (.ret (.lst (.cons (.con (.str ("force" : Str))) (.cons (.prim .str_ (.cons (.ix (.lst (.cons (.call 9 (.cons (.pk 0) (.cons (.con (.int (1000))) .nil)) []) (.cons (.call 9 (.cons (.pk 0) (.cons (.con (.int (6))) .nil)) []) .nil))) (.call 9 (.cons (.pk 0) (.cons (.con (.int (2))) .nil)) [])) .nil)) .nil)))) .nil) .nil) (.cons (.ret (.lst (.cons (.ix (.lst (.cons (.con (.str ("all" : Str))) (.cons (.con (.str ("self" : Str))) (.cons (.con (.str ("mine" : Str))) .nil)))) (.call 9 (.cons (.pk 0) (.cons (.con (.int (3))) .nil)) [])) .nil))) .nil)))) }
def f_law_whom : Fn := { np := 3, prot := [0, 1, 2], ns := 8, body :=
(.cons (.asg (.nm 3) (.call 9 (.cons (.pk 0) (.cons (.con (.int (8))) .nil)) [])) (.cons (.iff (.ands (.prim .gt (.cons (.pk 3) (.cons (.con (.int (5))) .nil))) (.prim .gt (.cons (.pk 2) (.cons (.con (.int (1))) .nil)))) (.cons (.asg (.tp [4, 5]) (.call 12 (.cons (.pk 0) (.cons (.pk 1) (.cons (.prim .sub (.cons (.pk 2) (.cons (.con (.int (1))) .nil))) .nil))) [])) (.cons (.ret (.tup (.cons (.prim .add (.cons (.lst (.cons (.con (.str ("not" : Str))) .nil)) (.cons (.pk 4) .nil))) (.cons (.prim .add (.cons (.pk 5) (.cons (.con (.int (1))) .nil))) .nil)))) .nil)) .nil) (.cons (.iff (.ands (.prim .gt (.cons (.pk 3) (.cons (.con (.int (1))) .nil))) (.prim .gt (.cons (.pk 2) (.cons (.con (.int (2))) .nil)))) (.cons (.asg (.tp [4, 5]) (.call 12 (.cons (.pk 0) (.cons (.pk 1) (.cons (.prim .sub (.cons (.pk 2) (.cons (.con (.int (2))) .nil))) .nil))) [])) (.cons (.asg (.tp [6, 7]) (.call 12 (.cons (.pk 0) (.cons (.pk 1) (.cons (.prim .sub (.cons (.prim .sub (.cons (.pk 2) (.cons (.con (.int (1))) .nil))) (.cons (.pk 5) .nil))) .nil))) [])) (.cons (.ret (.tup (.cons (.prim .add (.cons (.prim .add (.cons (.lst (.cons (.ix (.lst (.cons (.con (.str ("both" : Str))) (.cons (.con (.str ("any" : Str))) .nil))) (.prim .mod (.cons (.pk 3) (.cons (.con (.int (2))) .nil)))) .nil)) (.cons (.pk 4) .nil))) (.cons (.pk 6) .nil))) (.cons (.prim .add (.cons (.prim .add (.cons (.con (.int (1))) (.cons (.pk 5) .nil))) (.cons (.pk 7) .nil))) .nil)))) .nil))) .nil) (.cons (.ret (.tup (.cons (.call 11 (.cons (.pk 0) (.cons (.pk 1) .nil)) []) (.cons (.con (.int (1))) .nil)))) .nil)))) }
def f_law_sight_c0 : Ex := (.prim .eq (.cons (.prim .mod (.cons (.prim .fdiv (.cons (.pk 7) (.cons (.ix (.tup (.cons (.con (.int (1))) (.cons (.con (.int (2))) (.cons (.con (.int (4))) (.cons (.con (.int (8))) (.cons (.con (.int (16))) (.cons (.con (.int (32))) (.cons (.con (.int (64))) (.cons (.con (.int (128))) .nil))))))))) (.pk 9)) .nil))) (.cons (.con (.int (2))) .nil))) (.cons (.con (.int (1))) .nil)))
def f_law_sight_l0 : Ex := (.cs 4 (.ix (.pk 4) (.pk 9)))
def f_law_sight_b0 : Sms := (.cons (.asg (.nm 3) (.prim .add (.cons (.prim .add (.cons (.pk 3) (.cons (.call 9 (.cons (.pk 0) (.cons (.con (.int (3))) .nil)) []) .nil))) (.cons (.prim .int_ (.cons (.prim .gt (.cons (.pk 5) (.cons (.con (.int (0))) .nil))) .nil)) .nil)))) (.cons (.asg (.nm 6) (.call 9 (.cons (.pk 0) (.cons (.con (.int (4))) .nil)) [])) (.cons (.asg (.nm 7) (.call 9 (.cons (.pk 0) (.cons (.con (.int (256))) .nil)) [])) (.cons (.asg (.nm 8) (.prim .tuple_ (.cons (.lc (.nm 9) (.rng1 (.prim .len (.cons (.pk 4) .nil))) f_law_sight_c0 f_law_sight_l0) .nil))) (.cons (.asg (.nm 10) (.ix (.lst (.cons (.prim .sub (.cons (.call 9 (.cons (.pk 0) (.cons (.con (.int (1005))) .nil)) []) (.cons (.con (.int (3))) .nil))) (.cons (.prim .sub (.cons (.call 9 (.cons (.pk 0) (.cons (.con (.int (8))) .nil)) []) (.cons (.con (.int (1))) .nil))) .nil))) (.call 9 (.cons (.pk 0) (.cons (.con (.int (2))) .nil)) []))) (.cons (.iff (.prim .lt (.cons (.pk 3) (.cons (.con (.int (16))) .nil))) (.cons (.expr (.mut (.pk 2) .append (.cons (.tup (.cons (.var 3) (.cons (.var 6) (.cons (.var 8) (.cons (.var 10) (.cons (.prim .eq (.cons (.call 9 (.cons (.pk 0) (.cons (.con (.int (2))) .nil)) []) (.cons (.con (.int (1))) .nil))) .nil)))))) .nil))) .nil) .nil) .nil))))))
def f_law_sight : Fn := { np := 2, prot := [0, 1], ns := 11, body :=
(.cons (.asg (.nm 2) (.lst .nil)) (.cons (.asg (.nm 3) (.con (.int (0)))) (.cons (.asg (.nm 4) (.prim .ssort (.cons (.prim .add (.cons (.pk 1) (.cons (.lst (.cons (.con (.str ("all" : Str))) (.cons (.con (.str ("do" : Str))) (.cons (.con (.str ("not" : Str))) (.cons (.con (.str ("mark" : Str))) .nil))))) .nil))) .nil))) (.cons (.for_ (.nm 5) (.rng1 (.call 9 (.cons (.pk 0) (.cons (.con (.int (7))) .nil)) [])) f_law_sight_b0) (.cons (.ret (.var 2)) .nil))))) }
def f_law_row_b0 : Sms := (.cons (.iff (.prim .eq (.cons (.ix (.pk 2) (.con (.int (0)))) (.cons (.pk 1) .nil))) (.cons (.ret (.var 2)) .nil) .nil) .nil)
def f_law_row : Fn := { np := 2, prot := [0, 1], ns := 3, body :=
(.cons (.for_ (.nm 2) (.seq (.pk 0)) f_law_row_b0) (.cons (.ret (.tup (.cons (.prim .neg (.cons (.con (.int (9))) .nil)) (.cons (.prim .neg (.cons (.con (.int (9))) .nil)) (.cons (.tup .nil) (.cons (.prim .neg (.cons (.con (.int (9))) .nil)) (.cons (.con (.bl false)) .nil))))))) .nil)) }
def f_law_fits : Fn := { np := 4, prot := [0, 1, 2, 3], ns := 13, body :=
(.cons (.asg (.tp [4, 5, 6]) (.var 3)) (.cons (.asg (.nm 7) (.call 14 (.cons (.pk 2) (.cons (.pk 6) .nil)) [])) (.cons (.asg (.nm 8) (.cs 0 (.ix (.pk 0) (.pk 1)))) (.cons (.iff (.prim .eq (.cons (.pk 8) (.cons (.con (.str ("not" : Str))) .nil))) (.cons (.asg (.tp [9, 10]) (.call 15 (.cons (.pk 0) (.cons (.prim .add (.cons (.pk 1) (.cons (.con (.int (1))) .nil))) (.cons (.pk 2) (.cons (.pk 3) .nil)))) [])) (.cons (.ret (.tup (.cons (.nott (.pk 9)) (.cons (.var 10) .nil)))) .nil)) .nil) (.cons (.iff (.prim .inn (.cons (.pk 8) (.cons (.tup (.cons (.con (.str ("both" : Str))) (.cons (.con (.str ("any" : Str))) .nil))) .nil))) (.cons (.asg (.tp [11, 10]) (.call 15 (.cons (.pk 0) (.cons (.prim .add (.cons (.pk 1) (.cons (.con (.int (1))) .nil))) (.cons (.pk 2) (.cons (.pk 3) .nil)))) [])) (.cons (.asg (.tp [12, 10]) (.call 15 (.cons (.pk 0) (.cons (.pk 10) (.cons (.pk 2) (.cons (.pk 3) .nil)))) [])) (.cons (.ret (.tup (.cons (.ix (.lst (.cons (.ors (.pk 11) (.pk 12)) (.cons (.ands (.pk 11) (.pk 12)) .nil))) (.prim .int_ (.cons (.prim .eq (.cons (.pk 8) (.cons (.con (.str ("both" : Str))) .nil))) .nil))) (.cons (.var 10) .nil)))) .nil))) .nil) (.cons (.iff (.prim .eq (.cons (.pk 8) (.cons (.con (.str ("mark" : Str))) .nil))) (.cons (.ret (.tup (.cons (.ands (.prim .ge (.cons (.pk 6) (.cons (.con (.int (0))) .nil))) (.prim .inn (.cons (.ix (.pk 0) (.prim .add (.cons (.pk 1) (.cons (.con (.int (1))) .nil)))) (.cons (.ix (.pk 7) (.con (.int (2)))) .nil)))) (.cons (.prim .add (.cons (.pk 1) (.cons (.con (.int (2))) .nil))) .nil)))) .nil) .nil) (.cons (.iff (.prim .eq (.cons (.pk 8) (.cons (.con (.str ("force" : Str))) .nil))) (.cons (.ret (.tup (.cons (.ands (.prim .ge (.cons (.pk 6) (.cons (.con (.int (0))) .nil))) (.prim .ge (.cons (.ix (.pk 7) (.con (.int (3)))) (.cons (.prim .int_ (.cons (.ix (.pk 0) (.prim .add (.cons (.pk 1) (.cons (.con (.int (1))) .nil)))) .nil)) .nil)))) (.cons (.prim .add (.cons (.pk 1) (.cons (.con (.int (2))) .nil))) .nil)))) .nil) .nil) (.cons (.iff (.prim .eq (.cons (.pk 8) (.cons (.con (.str ("mine" : Str))) .nil))) (.cons (.ret (.tup (.cons (.ors (.prim .eq (.cons (.ix (.pk 7) (.con (.int (1)))) (.cons (.pk 5) .nil))) (.prim .eq (.cons (.pk 6) (.cons (.prim .sub (.cons (.prim .neg (.cons (.con (.int (1))) .nil)) (.cons (.pk 5) .nil))) .nil)))) (.cons (.prim .add (.cons (.pk 1) (.cons (.con (.int (1))) .nil))) .nil)))) .nil) .nil) (.cons (.ret (.tup (.cons (.ors (.prim .eq (.cons (.pk 8) (.cons (.con (.str ("all" : Str))) .nil))) (.prim .eq (.cons (.pk 6) (.cons (.pk 4) .nil)))) (.cons (.prim .add (.cons (.pk 1) (.cons (.con (.int (1))) .nil))) .nil)))) .nil))))))))) }
def f_law_right_c0 : Ex := (.con (.bl true))
def f_law_right_l0 : Ex := (.cs 6 (.ix (.pk 6) (.con (.int (0)))))
def f_law_right_b0 : Sms := (.cons (.asg (.nm 7) (.meth ("fits" : Str) (.pk 0) (.cons (.pk 2) (.cons (.pk 3) (.cons (.pk 4) (.cons (.pk 5) .nil)))))) (.cons (.iff (.ors (.nott (.prim (.isi .bool [0, 1, 2, 3, 4, 5, 6]) (.cons (.pk 7) .nil))) (.prim .ne (.cons (.pk 7) (.cons (.ix (.call 15 (.cons (.pk 1) (.cons (.con (.int (0))) (.cons (.pk 2) (.cons (.tup (.cons (.var 3) (.cons (.var 4) (.cons (.var 5) .nil)))) .nil)))) []) (.con (.int (0)))) .nil)))) (.cons (.ret (.con (.bl false))) .nil) .nil) .nil))
def f_law_right : Fn := { np := 5, prot := [0, 1, 2, 3, 4], ns := 8, body :=
(.cons (.for_ (.nm 5) (.seq (.prim .add (.cons (.lc (.nm 6) (.seq (.pk 2)) f_law_right_c0 f_law_right_l0) (.cons (.lst (.cons (.prim .neg (.cons (.con (.int (1))) .nil)) (.cons (.prim .neg (.cons (.con (.int (2))) .nil)) (.cons (.prim .neg (.cons (.con (.int (3))) .nil)) (.cons (.prim .neg (.cons (.con (.int (4))) .nil)) .nil))))) .nil)))) f_law_right_b0) (.cons (.ret (.con (.bl true))) .nil)) }
def f_law : Fn := { np := 1, prot := [0], ns := 10, body :=
(.cons (.asg (.nm 1) (.lst (.cons (.var 0) (.cons (.con (.int (0))) .nil)))) (.cons (.asg (.nm 2) (.call 10 (.cons (.pk 1) (.cons (.con (.int (4))) .nil)) [])) (.cons (.asg (.nm 3) (.ix (.call 12 (.cons (.pk 1) (.cons (.pk 2) (.cons (.con (.int (9))) .nil))) []) (.con (.int (0))))) (.cons (.asg (.nm 4) (.call 8 (.cons (.prim .join (.cons (.con (.str (" " : Str))) (.cons (.pk 3) .nil))) .nil) [])) (.cons (.asg (.nm 5) (.call 13 (.cons (.pk 1) (.cons (.pk 2) .nil)) [])) (.cons (.asg (.nm 6) (.call 13 (.cons (.pk 1) (.cons (.pk 2) .nil)) [])) (.cons (.asg (.nm 7) (.ix (.lst (.cons (.call 9 (.cons (.pk 1) (.cons (.con (.int (16))) .nil)) []) (.cons (.ix (.ix (.prim .add (.cons (.pk 5) (.cons (.lst (.cons (.tup (.cons (.con (.int (3))) (.cons (.con (.int (0))) .nil))) .nil)) .nil))) (.call 9 (.cons (.pk 1) (.cons (.prim .add (.cons (.prim .len (.cons (.pk 5) .nil)) (.cons (.con (.int (1))) .nil))) .nil)) [])) (.con (.int (0)))) .nil))) (.call 9 (.cons (.pk 1) (.cons (.con (.int (2))) .nil)) []))) (.cons (.asg (.nm 8) (.call 9 (.cons (.pk 1) (.cons (.con (.int (4))) .nil)) [])) (.cons (.asg (.nm 9) (.prim .list_ (.cons (.pk 5) .nil))) (.cons (.iff (.ors (.nott (.call 16 (.cons (.pk 4) (.cons (.pk 3) (.cons (.pk 9) (.cons (.pk 7) (.cons (.pk 8) .nil))))) [])) (.prim .ne (.cons (.pk 9) (.cons (.pk 5) .nil)))) (.cons (.ret (.con (.bl false))) .nil) .nil) (.cons (.expr (.mut (.pk 9) .clear .nil)) (.cons (.expr (.mut (.pk 9) .extend (.cons (.var 6) .nil))) (.cons (.ret (.ands (.call 16 (.cons (.pk 4) (.cons (.pk 3) (.cons (.pk 9) (.cons (.call 9 (.cons (.pk 1) (.cons (.con (.int (16))) .nil)) []) (.cons (.call 9 (.cons (.pk 1) (.cons (.con (.int (4))) .nil)) []) .nil))))) []) (.prim .eq (.cons (.pk 9) (.cons (.pk 6) .nil))))) .nil))))))))))))) }
def f_Whom_fits : Fn := { np := 5, prot := [0, 1, 2, 3, 4], ns := 5, body :=
(.cons (.ret (.con (.bl true))) .nil) }
def f_Itself_fits : Fn := { np := 5, prot := [0, 1, 2, 3, 4], ns := 5, body :=
(.cons (.ret (.prim .eq (.cons (.pk 4) (.cons (.pk 2) .nil)))) .nil) }
def f_Mine_fits : Fn := { np := 5, prot := [0, 1, 2, 3, 4], ns := 6, body :=
(.cons (.asg (.nm 5) (.call 2 (.cons (.pk 1) (.cons (.pk 4) .nil)) [])) (.cons (.iff (.prim .isn (.cons (.pk 5) .nil)) (.cons (.ret (.prim .eq (.cons (.pk 4) (.cons (.prim .sub (.cons (.prim .neg (.cons (.con (.int (1))) .nil)) (.cons (.pk 3) .nil))) .nil)))) .nil) .nil) (.cons (.ret (.prim .eq (.cons (.ix (.pk 5) (.con (.int (1)))) (.cons (.pk 3) .nil)))) .nil))) }
def f_Marked___init__ : Fn := { np := 2, prot := [0, 1], ns := 2, body :=
(.cons (.sfld (.pk 0) ("name" : Str) (.var 1)) .nil) }
def f_Marked_fits : Fn := { np := 5, prot := [0, 1, 2, 3, 4], ns := 6, body :=
(.cons (.asg (.nm 5) (.call 2 (.cons (.pk 1) (.cons (.pk 4) .nil)) [])) (.cons (.ret (.ands (.prim .notn (.cons (.pk 5) .nil)) (.prim .inn (.cons (.fld (.pk 0) ("name" : Str)) (.cons (.ix (.pk 5) (.con (.int (2)))) .nil))))) .nil)) }
def f_Strong___init__ : Fn := { np := 2, prot := [0, 1], ns := 2, body :=
(.cons (.sfld (.pk 0) ("least" : Str) (.var 1)) .nil) }
def f_Strong_fits : Fn := { np := 5, prot := [0, 1, 2, 3, 4], ns := 6, body :=
(.cons (.asg (.nm 5) (.call 2 (.cons (.pk 1) (.cons (.pk 4) .nil)) [])) (.cons (.ret (.ands (.prim .notn (.cons (.pk 5) .nil)) (.prim .ge (.cons (.ix (.pk 5) (.con (.int (3)))) (.cons (.fld (.pk 0) ("least" : Str)) .nil))))) .nil)) }
def f_Others___init__ : Fn := { np := 2, prot := [0, 1], ns := 2, body :=
(.cons (.sfld (.pk 0) ("part" : Str) (.var 1)) .nil) }
def f_Others_fits : Fn := { np := 5, prot := [0, 1, 2, 3, 4], ns := 5, body :=
(.cons (.ret (.nott (.meth ("fits" : Str) (.cs 0 (.fld (.pk 0) ("part" : Str))) (.cons (.pk 1) (.cons (.pk 2) (.cons (.pk 3) (.cons (.pk 4) .nil))))))) .nil) }
def f_Pair___init__ : Fn := { np := 4, prot := [0, 1, 2, 3], ns := 4, body :=
(.cons (.sfld (.pk 0) ("word" : Str) (.var 1)) (.cons (.sfld (.pk 0) ("one" : Str) (.var 2)) (.cons (.sfld (.pk 0) ("other" : Str) (.var 3)) .nil))) }
def f_Pair_fits : Fn := { np := 5, prot := [0, 1, 2, 3, 4], ns := 7, body :=
(.cons (.asg (.nm 5) (.meth ("fits" : Str) (.cs 0 (.fld (.pk 0) ("one" : Str))) (.cons (.pk 1) (.cons (.pk 2) (.cons (.pk 3) (.cons (.pk 4) .nil)))))) (.cons (.asg (.nm 6) (.meth ("fits" : Str) (.cs 0 (.fld (.pk 0) ("other" : Str))) (.cons (.pk 1) (.cons (.pk 2) (.cons (.pk 3) (.cons (.pk 4) .nil)))))) (.cons (.iff (.prim .eq (.cons (.fld (.pk 0) ("word" : Str)) (.cons (.con (.str ("both" : Str))) .nil))) (.cons (.ret (.ands (.pk 5) (.pk 6))) .nil) .nil) (.cons (.ret (.ors (.pk 5) (.pk 6))) .nil)))) }
def fns : List Fn := [f_is_name, f_is_number, f_row_of, f_word_at, f_name_at, f_number_at, f_part_at, f_whom_at, f_read_whom, f_law_take, f_law_names, f_law_leaf, f_law_whom, f_law_sight, f_law_row, f_law_fits, f_law_right, f_law, f_Whom_fits, f_Itself_fits, f_Mine_fits, f_Marked___init__, f_Marked_fits, f_Strong___init__, f_Strong_fits, f_Others___init__, f_Others_fits, f_Pair___init__, f_Pair_fits]
def mTab : List (List (Str × Nat)) := [[(("fits" : Str), 18)], [(("fits" : Str), 19)], [(("fits" : Str), 20)], [(("fits" : Str), 22)], [(("fits" : Str), 24)], [(("fits" : Str), 26)], [(("fits" : Str), 28)]]
def iTab : List (Option Nat) := [none, none, none, some 21, some 23, some 25, some 27]
def fTab : List (List Str) := [[], [], [], [("name" : Str)], [("least" : Str)], [("part" : Str)], [("word" : Str), ("one" : Str), ("other" : Str)]]
def G : Sig where
  consts := [(("LETTERS" : Str), (D.str ("abcdefghijklmnopqrstuvwxyz" : Str))), (("FIGURES" : Str), (D.str ("0123456789" : Str))), (("MOST_WORDS" : Str), (D.int (9)))]
  meths := fun c m => if c < 1000000000 then (mTab.getD (c % 1000) []).lookup m else none
  init := fun c => if c < 1000 then iTab.getD c none else none
  flds := fun c n => decide (c < 1000000000) && (fTab.getD (c % 1000) []).contains n
  turns := 1000
  dcts := []
def cNames : List Str := [("Whom" : Str), ("Itself" : Str), ("Mine" : Str), ("Marked" : Str), ("Strong" : Str), ("Others" : Str), ("Pair" : Str)]
def cA (K : PySem.W.Frag) (i : Nat) : PySem.Addr := He.ga K (cNames.getD (i % 1000) "")
end K03
end TK
namespace TK
namespace K03
open PySem (Str)
abbrev stD (ns : List Int) (at_ : Int) : D := .ol [.nd .scr false (ns.map .int), .int at_]
theorem take_ev (k : Nat) (ns : List Int) (hl : ns.length ≤ 63) (at_ most : Int) (h0 : 0 ≤ at_) (h1 : at_ < 100000) (hm : 0 < most) : ∃ z : Int, 0 ≤ z ∧ z < most ∧ evF G fns (k + 1) 9 [stD ns at_, .int most] = some (.int z, [stD ns (at_ + 1), .int most]) := by
  have q1 : at_ < 18446744073709551616 := by omega
  have q2 : -18446744073709551616 < at_ := by omega
  cases ns with
  | nil =>
    refine ⟨_, Int.emod_nonneg ((at_ * at_ * 7919 + 12345) * 48271 % 2147483629 / 7) (by omega : most ≠ 0), Int.emod_lt_of_pos _ hm, ?_⟩
    rw [evF_at (fn := f_law_take) rfl rfl]
    simp [f_law_take, startE, stD, sms_nil, sms_cons, sm_asg, sm_sub, sm_expr, sm_iff, sm_for, sm_whil, sm_ret, sm_retn, sm_brk, sm_pass, ex_con, ex_glo, ex_kix, ex_dlit, ex_var, ex_vz, ex_pk, ex_mv, ex_cs, ex_prim, ex_ix, ex_tup, ex_lst, ex_nott, ex_ands, ex_ors, ex_ite, ex_chain, ex_call, ex_fld, ex_meth, ex_new, sm_sfld, sm_nev, ex_mut, ex_lc, exs_nil, exs_cons, it_seq, it_enum, enumT, nmbr, itemsT, it_rng1, it_rng2, gt, gets, R.get, Cn.d, bool1, tms, tm1, bindTg, endDs, lentOk, back, mutR, wrR, putR, M.ev, wipeE, setP, asSeq, asTup, v_add, v_adds, v_addl, v_sub, v_mul, v_fdiv, v_mod, v_pow, v_neg, v_lt, v_le, v_gt, v_ge, v_eqi, v_nei, v_eqs, v_nes, v_eqb, v_neb, v_lenl, v_lent, v_lenr, v_lens, v_list, v_rev, v_listr, v_isi, v_isiI, v_isiB, v_isiN, v_isiL, v_isiT, v_isiK, v_isiC, v_strs, v_isn, v_notn, v_min, v_max, v_slLl, v_slHl, v_slBl, v_slLr, v_slHr, v_slLs, v_slHs, v_eql, v_nel, v_eql0, D.isTy, fzs_ints, frs_ints, sLine, nl1, nl2, items_l, items_t, items_r, items_s, ixR, ixP, q1, q2, hm]
  | cons n ns =>
    have hi : ∃ j : Nat, j < ns.length + 1 ∧ at_ % ((ns.length : Int) + 1) = (j : Int) := ⟨(at_ % ((ns.length : Int) + 1)).toNat, by have := Int.emod_lt_of_pos at_ (show (0 : Int) < (ns.length : Int) + 1 by omega); have := Int.emod_nonneg at_ (show ((ns.length : Int) + 1) ≠ 0 by omega); omega, by have := Int.emod_nonneg at_ (show ((ns.length : Int) + 1) ≠ 0 by omega); omega⟩
    obtain ⟨j, hj, hje⟩ := hi
    have hd : ∃ d : Int, (n :: ns)[j]? = some d := ⟨_, List.getElem?_eq_getElem (by simpa using hj)⟩
    obtain ⟨d, hd⟩ := hd
    have hix : ∀ (e : Env), gt e 2 = some (.nd .scr false (D.int n :: ns.map D.int)) → ixR e (.sl 2) (.int (at_ % ((ns.length : Int) + 1))) = some (.tm (.int d)) := fun e he => by
      have hx : ixP (D.int n :: ns.map D.int).length (at_ % ((ns.length : Int) + 1)) = some j := by
        rw [hje, ixP_nat (by simpa using hj)]
      have hg : (D.int n :: ns.map D.int)[j]? = some (.int d) := by
        rw [show D.int n :: ns.map D.int = (n :: ns).map D.int from rfl, List.getElem?_map, hd]; rfl
      simp only [ixR, R.get, he, asSeq, hx, hg]
      rfl
    have hs0 : ∀ (e : Env), gt e 0 = some (.ol [.nd .scr false (D.int n :: ns.map D.int), .int at_]) → ixR e (.sl 0) (.int 0) = some (.tm (.nd .scr false (D.int n :: ns.map D.int))) := fun e he => by
      have hf : D.fz.fzs (D.int n :: ns.map D.int) = true := fzs_ints (n :: ns)
      simp [ixR, R.get, he, asSeq, ixP, fzs_ints]
    have hs1 : ∀ (e : Env), gt e 0 = some (.ol [.nd .scr false (D.int n :: ns.map D.int), .int at_]) → ixR e (.sl 0) (.int 1) = some (.tm (.int at_)) := fun e he => by
      simp [ixR, R.get, he, asSeq, ixP]
    have hl1 : (ns.length : Int) + 1 < 1073741824 := by simp at hl; omega
    refine ⟨_, Int.emod_nonneg ((at_ * at_ * 7919 + d % 2147483647 + at_ / ((ns.length : Int) + 1) * 977 + 12345) * 48271 % 2147483629 / 7) (by omega : most ≠ 0), Int.emod_lt_of_pos _ hm, ?_⟩
    rw [evF_at (fn := f_law_take) rfl rfl]
    simp [f_law_take, startE, stD, sms_nil, sms_cons, sm_asg, sm_sub, sm_expr, sm_iff, sm_for, sm_whil, sm_ret, sm_retn, sm_brk, sm_pass, ex_con, ex_glo, ex_kix, ex_dlit, ex_var, ex_vz, ex_pk, ex_mv, ex_cs, ex_prim, ex_ix, ex_tup, ex_lst, ex_nott, ex_ands, ex_ors, ex_ite, ex_chain, ex_call, ex_fld, ex_meth, ex_new, sm_sfld, sm_nev, ex_mut, ex_lc, exs_nil, exs_cons, it_seq, it_enum, enumT, nmbr, itemsT, it_rng1, it_rng2, gt, gets, R.get, Cn.d, bool1, tms, tm1, bindTg, endDs, lentOk, back, mutR, wrR, putR, M.ev, wipeE, setP, asSeq, asTup, v_add, v_adds, v_addl, v_sub, v_mul, v_fdiv, v_mod, v_pow, v_neg, v_lt, v_le, v_gt, v_ge, v_eqi, v_nei, v_eqs, v_nes, v_eqb, v_neb, v_lenl, v_lent, v_lenr, v_lens, v_list, v_rev, v_listr, v_isi, v_isiI, v_isiB, v_isiN, v_isiL, v_isiT, v_isiK, v_isiC, v_strs, v_isn, v_notn, v_min, v_max, v_slLl, v_slHl, v_slBl, v_slLr, v_slHr, v_slLs, v_slHs, v_eql, v_nel, v_eql0, D.isTy, fzs_ints, frs_ints, sLine, nl1, nl2, items_l, items_t, items_r, items_s, ixP, q1, q2, hm, hix, hs0, hs1, hl1]
def letters : Str := "abcdefghijklmnopqrstuvwxyz"
def figures : Str := "0123456789"
theorem cl_l : G.consts.lookup ("LETTERS" : Str) = some (D.str letters) := by rfl
theorem cl_f : G.consts.lookup ("FIGURES" : Str) = some (D.str figures) := by rfl
theorem sg_cases {z : Str} {d : D} (h : d ∈ sgs z) : ∃ c, d = .str ⟨#[c]⟩ := by
  obtain ⟨c, _, rfl⟩ := List.mem_map.mp h
  exact ⟨c, rfl⟩
theorem inS_c (c : Nat) (s : Str) : inS s (.str ⟨#[c]⟩) = decide (c ∈ s.cps.toList) := rfl
theorem is_name_ev (k : Nat) (z : Str) (hz : z.length ≤ 1000) : evF G fns (k + 1) 0 [.str z] = some (.bl ((sgs z).all (inS letters) && (decide (0 < z.length) && decide (z.length < 9))), [.str z]) := by
  rw [evF_at (fn := f_is_name) rfl rfl]
  obtain ⟨e', ⟨x, he⟩, hl⟩ := forL_ret (f := forB G (evF G fns k) (.nm 1) f_is_name_b0) (inS letters) (.bl false) (fun e => ∃ x, e = [some (.str z), x]) (xs := sgs z) (e := [some (.str z), none]) ⟨none, rfl⟩ (fun d hd e ⟨x, he⟩ => by
    obtain ⟨c, rfl⟩ := sg_cases hd
    subst he
    refine ⟨[some (.str z), some (.str ⟨#[c]⟩)], ⟨_, rfl⟩, ?_⟩
    rw [inS_c]
    by_cases h : c ∈ letters.cps.toList
    · simp [forB, f_is_name_b0, sms_nil, sms_cons, sm_asg, sm_sub, sm_expr, sm_iff, sm_for, sm_whil, sm_ret, sm_retn, sm_brk, sm_pass, ex_con, ex_glo, ex_kix, ex_dlit, ex_var, ex_vz, ex_pk, ex_mv, ex_cs, ex_prim, ex_ix, ex_tup, ex_lst, ex_nott, ex_ands, ex_ors, ex_ite, ex_chain, ex_call, ex_fld, ex_meth, ex_new, sm_sfld, sm_nev, ex_mut, ex_lc, exs_nil, exs_cons, it_seq, it_enum, enumT, nmbr, itemsT, it_rng1, it_rng2, gt, gets, R.get, Cn.d, bool1, tms, tm1, bindTg, endDs, lentOk, back, mutR, wrR, putR, M.ev, wipeE, setP, asSeq, asTup, v_nots, h, cl_l]
    · simp [forB, f_is_name_b0, sms_nil, sms_cons, sm_asg, sm_sub, sm_expr, sm_iff, sm_for, sm_whil, sm_ret, sm_retn, sm_brk, sm_pass, ex_con, ex_glo, ex_kix, ex_dlit, ex_var, ex_vz, ex_pk, ex_mv, ex_cs, ex_prim, ex_ix, ex_tup, ex_lst, ex_nott, ex_ands, ex_ors, ex_ite, ex_chain, ex_call, ex_fld, ex_meth, ex_new, sm_sfld, sm_nev, ex_mut, ex_lc, exs_nil, exs_cons, it_seq, it_enum, enumT, nmbr, itemsT, it_rng1, it_rng2, gt, gets, R.get, Cn.d, bool1, tms, tm1, bindTg, endDs, lentOk, back, mutR, wrR, putR, M.ev, wipeE, setP, asSeq, asTup, v_nots, h, cl_l])
  subst he
  have hi : items (.str z) = some (sgs z) := rfl
  have hs : z.length ≤ 16777216 := by omega
  by_cases h : (sgs z).all (inS letters) = true
  · rw [if_pos h] at hl
    by_cases h2 : 0 < z.length
    · simp [f_is_name, startE, sms_nil, sms_cons, sm_asg, sm_sub, sm_expr, sm_iff, sm_for, sm_whil, sm_ret, sm_retn, sm_brk, sm_pass, ex_con, ex_glo, ex_kix, ex_dlit, ex_var, ex_vz, ex_pk, ex_mv, ex_cs, ex_prim, ex_ix, ex_tup, ex_lst, ex_nott, ex_ands, ex_ors, ex_ite, ex_chain, ex_call, ex_fld, ex_meth, ex_new, sm_sfld, sm_nev, ex_mut, ex_lc, exs_nil, exs_cons, it_seq, it_enum, enumT, nmbr, itemsT, it_rng1, it_rng2, gt, gets, R.get, Cn.d, bool1, tms, tm1, bindTg, endDs, lentOk, back, mutR, wrR, putR, M.ev, wipeE, setP, asSeq, asTup, hi, hl, h, v_lens, sLine, hs, v_lt, h2]
      omega
    · simp [f_is_name, startE, sms_nil, sms_cons, sm_asg, sm_sub, sm_expr, sm_iff, sm_for, sm_whil, sm_ret, sm_retn, sm_brk, sm_pass, ex_con, ex_glo, ex_kix, ex_dlit, ex_var, ex_vz, ex_pk, ex_mv, ex_cs, ex_prim, ex_ix, ex_tup, ex_lst, ex_nott, ex_ands, ex_ors, ex_ite, ex_chain, ex_call, ex_fld, ex_meth, ex_new, sm_sfld, sm_nev, ex_mut, ex_lc, exs_nil, exs_cons, it_seq, it_enum, enumT, nmbr, itemsT, it_rng1, it_rng2, gt, gets, R.get, Cn.d, bool1, tms, tm1, bindTg, endDs, lentOk, back, mutR, wrR, putR, M.ev, wipeE, setP, asSeq, asTup, hi, hl, h, v_lens, sLine, hs, v_lt, h2]
  · rw [if_neg h] at hl
    simp [f_is_name, startE, sms_nil, sms_cons, sm_asg, sm_sub, sm_expr, sm_iff, sm_for, sm_whil, sm_ret, sm_retn, sm_brk, sm_pass, ex_con, ex_glo, ex_kix, ex_dlit, ex_var, ex_vz, ex_pk, ex_mv, ex_cs, ex_prim, ex_ix, ex_tup, ex_lst, ex_nott, ex_ands, ex_ors, ex_ite, ex_chain, ex_call, ex_fld, ex_meth, ex_new, sm_sfld, sm_nev, ex_mut, ex_lc, exs_nil, exs_cons, it_seq, it_enum, enumT, nmbr, itemsT, it_rng1, it_rng2, gt, gets, R.get, Cn.d, bool1, tms, tm1, bindTg, endDs, lentOk, back, mutR, wrR, putR, M.ev, wipeE, setP, asSeq, asTup, hi, hl, h]
/-- the first sign is no nought, where there is one -/
def noZ (z : Str) : Bool := decide (z = "0") || !(match z.cps.toList with | c :: _ => decide ((⟨#[c]⟩ : Str) = "0") | [] => true)
theorem ix0 {z : Str} {c : Nat} {r : List Nat} (h : z.cps.toList = c :: r) (hz : z.length ≤ 1000) (i : Nat) (e : Env) (he : gt e i = some (.str z)) : ixR e (.sl i) (.int 0) = some (.tm (.str ⟨#[c]⟩)) := by
  have h1 : z.length ≤ sLine := by simp only [sLine]; omega
  simp only [ixR, R.get, he, h1, if_true, h]
  rw [show ixP (c :: r).length 0 = some 0 from ixP_nat (j := 0) (by simp)]
  rfl
theorem is_number_ev (k : Nat) (z : Str) (hz : z.length ≤ 1000) : evF G fns (k + 1) 1 [.str z] = some (.bl ((sgs z).all (inS figures) && ((decide (0 < z.length) && decide (z.length < 4)) && noZ z)), [.str z]) := by
  rw [evF_at (fn := f_is_number) rfl rfl]
  obtain ⟨e', ⟨x, he⟩, hl⟩ := forL_ret (f := forB G (evF G fns k) (.nm 1) f_is_number_b0) (inS figures) (.bl false) (fun e => ∃ x, e = [some (.str z), x]) (xs := sgs z) (e := [some (.str z), none]) ⟨none, rfl⟩ (fun d hd e ⟨x, he⟩ => by
    obtain ⟨c, rfl⟩ := sg_cases hd
    subst he
    refine ⟨[some (.str z), some (.str ⟨#[c]⟩)], ⟨_, rfl⟩, ?_⟩
    rw [inS_c]
    by_cases h : c ∈ figures.cps.toList
    · simp [forB, f_is_number_b0, sms_nil, sms_cons, sm_asg, sm_sub, sm_expr, sm_iff, sm_for, sm_whil, sm_ret, sm_retn, sm_brk, sm_pass, ex_con, ex_glo, ex_kix, ex_dlit, ex_var, ex_vz, ex_pk, ex_mv, ex_cs, ex_prim, ex_ix, ex_tup, ex_lst, ex_nott, ex_ands, ex_ors, ex_ite, ex_chain, ex_call, ex_fld, ex_meth, ex_new, sm_sfld, sm_nev, ex_mut, ex_lc, exs_nil, exs_cons, it_seq, it_enum, enumT, nmbr, itemsT, it_rng1, it_rng2, gt, gets, R.get, Cn.d, bool1, tms, tm1, bindTg, endDs, lentOk, back, mutR, wrR, putR, M.ev, wipeE, setP, asSeq, asTup, v_nots, h, cl_f]
    · simp [forB, f_is_number_b0, sms_nil, sms_cons, sm_asg, sm_sub, sm_expr, sm_iff, sm_for, sm_whil, sm_ret, sm_retn, sm_brk, sm_pass, ex_con, ex_glo, ex_kix, ex_dlit, ex_var, ex_vz, ex_pk, ex_mv, ex_cs, ex_prim, ex_ix, ex_tup, ex_lst, ex_nott, ex_ands, ex_ors, ex_ite, ex_chain, ex_call, ex_fld, ex_meth, ex_new, sm_sfld, sm_nev, ex_mut, ex_lc, exs_nil, exs_cons, it_seq, it_enum, enumT, nmbr, itemsT, it_rng1, it_rng2, gt, gets, R.get, Cn.d, bool1, tms, tm1, bindTg, endDs, lentOk, back, mutR, wrR, putR, M.ev, wipeE, setP, asSeq, asTup, v_nots, h, cl_f])
  subst he
  have hi : items (.str z) = some (sgs z) := rfl
  have hs : z.length ≤ 16777216 := by omega
  by_cases h : (sgs z).all (inS figures) = true
  · rw [if_pos h] at hl
    by_cases h2 : 0 < z.length
    · by_cases h3 : z.length < 4
      · obtain ⟨c, r, hc⟩ : ∃ c r, z.cps.toList = c :: r := by
          cases q : z.cps.toList with
          | nil =>
            have : z.length = 0 := by have := congrArg List.length q; simpa [PySem.Str.length] using this
            omega
          | cons c r => exact ⟨c, r, rfl⟩
        have hn : noZ z = (decide (z = "0") || !decide ((⟨#[c]⟩ : Str) = "0")) := by unfold noZ; rw [hc]
        by_cases h4 : z = "0"
        · have d4 : P.ev .eq [.str z, .str "0"] = some (.bl true) := by rw [v_eqs, decide_eq_true h4]
          have d5 : noZ z = true := by rw [hn, decide_eq_true h4]; rfl
          have d6 : (z.length : Int) < 4 := by omega
          simp [f_is_number, startE, sms_nil, sms_cons, sm_asg, sm_sub, sm_expr, sm_iff, sm_for, sm_whil, sm_ret, sm_retn, sm_brk, sm_pass, ex_con, ex_glo, ex_kix, ex_dlit, ex_var, ex_vz, ex_pk, ex_mv, ex_cs, ex_prim, ex_ix, ex_tup, ex_lst, ex_nott, ex_ands, ex_ors, ex_ite, ex_chain, ex_call, ex_fld, ex_meth, ex_new, sm_sfld, sm_nev, ex_mut, ex_lc, exs_nil, exs_cons, it_seq, it_enum, enumT, nmbr, itemsT, it_rng1, it_rng2, gt, gets, R.get, Cn.d, bool1, tms, tm1, bindTg, endDs, lentOk, back, mutR, wrR, putR, M.ev, wipeE, setP, asSeq, asTup, hi, hl, h, v_lens, sLine, hs, v_lt, d4, d5, d6, h2, h3]
        · have d6 : (z.length : Int) < 4 := by omega
          simp [f_is_number, startE, sms_nil, sms_cons, sm_asg, sm_sub, sm_expr, sm_iff, sm_for, sm_whil, sm_ret, sm_retn, sm_brk, sm_pass, ex_con, ex_glo, ex_kix, ex_dlit, ex_var, ex_vz, ex_pk, ex_mv, ex_cs, ex_prim, ex_ix, ex_tup, ex_lst, ex_nott, ex_ands, ex_ors, ex_ite, ex_chain, ex_call, ex_fld, ex_meth, ex_new, sm_sfld, sm_nev, ex_mut, ex_lc, exs_nil, exs_cons, it_seq, it_enum, enumT, nmbr, itemsT, it_rng1, it_rng2, gt, gets, R.get, Cn.d, bool1, tms, tm1, bindTg, endDs, lentOk, back, mutR, wrR, putR, M.ev, wipeE, setP, asSeq, asTup, hi, hl, h, v_lens, sLine, hs, v_lt, v_eqs, v_nes, h2, h3, hn, h4, d6, ix0 hc hz]
      · have d6 : ¬ (z.length : Int) < 4 := by omega
        simp [f_is_number, startE, sms_nil, sms_cons, sm_asg, sm_sub, sm_expr, sm_iff, sm_for, sm_whil, sm_ret, sm_retn, sm_brk, sm_pass, ex_con, ex_glo, ex_kix, ex_dlit, ex_var, ex_vz, ex_pk, ex_mv, ex_cs, ex_prim, ex_ix, ex_tup, ex_lst, ex_nott, ex_ands, ex_ors, ex_ite, ex_chain, ex_call, ex_fld, ex_meth, ex_new, sm_sfld, sm_nev, ex_mut, ex_lc, exs_nil, exs_cons, it_seq, it_enum, enumT, nmbr, itemsT, it_rng1, it_rng2, gt, gets, R.get, Cn.d, bool1, tms, tm1, bindTg, endDs, lentOk, back, mutR, wrR, putR, M.ev, wipeE, setP, asSeq, asTup, hi, hl, h, v_lens, sLine, hs, v_lt, h2, h3, d6]
    · simp [f_is_number, startE, sms_nil, sms_cons, sm_asg, sm_sub, sm_expr, sm_iff, sm_for, sm_whil, sm_ret, sm_retn, sm_brk, sm_pass, ex_con, ex_glo, ex_kix, ex_dlit, ex_var, ex_vz, ex_pk, ex_mv, ex_cs, ex_prim, ex_ix, ex_tup, ex_lst, ex_nott, ex_ands, ex_ors, ex_ite, ex_chain, ex_call, ex_fld, ex_meth, ex_new, sm_sfld, sm_nev, ex_mut, ex_lc, exs_nil, exs_cons, it_seq, it_enum, enumT, nmbr, itemsT, it_rng1, it_rng2, gt, gets, R.get, Cn.d, bool1, tms, tm1, bindTg, endDs, lentOk, back, mutR, wrR, putR, M.ev, wipeE, setP, asSeq, asTup, hi, hl, h, v_lens, sLine, hs, v_lt, h2]
  · rw [if_neg h] at hl
    simp [f_is_number, startE, sms_nil, sms_cons, sm_asg, sm_sub, sm_expr, sm_iff, sm_for, sm_whil, sm_ret, sm_retn, sm_brk, sm_pass, ex_con, ex_glo, ex_kix, ex_dlit, ex_var, ex_vz, ex_pk, ex_mv, ex_cs, ex_prim, ex_ix, ex_tup, ex_lst, ex_nott, ex_ands, ex_ors, ex_ite, ex_chain, ex_call, ex_fld, ex_meth, ex_new, sm_sfld, sm_nev, ex_mut, ex_lc, exs_nil, exs_cons, it_seq, it_enum, enumT, nmbr, itemsT, it_rng1, it_rng2, gt, gets, R.get, Cn.d, bool1, tms, tm1, bindTg, endDs, lentOk, back, mutR, wrR, putR, M.ev, wipeE, setP, asSeq, asTup, hi, hl, h]
theorem ix_str {z : Str} {m : Int} (h0 : 0 ≤ m) (h1 : m < z.length) (hz : z.length ≤ 1000) : ∃ c : Nat, ∀ (i : Nat) (e : Env), gt e i = some (.str z) → ixR e (.sl i) (.int m) = some (.tm (.str ⟨#[c]⟩)) := by
  have hl : z.cps.toList.length = z.length := by simp [PySem.Str.length]
  have hj : m.toNat < z.cps.toList.length := by omega
  refine ⟨z.cps.toList[m.toNat], fun i e he => ?_⟩
  have h2 : z.length ≤ sLine := by simp only [sLine]; omega
  have h3 : ixP z.cps.toList.length m = some m.toNat := ixP_int h0 (by omega)
  simp only [ixR, R.get, he, h2, if_true, h3, List.getElem?_eq_getElem hj]
theorem cutP_len {α : Type} (xs : List α) (lo hi : Option Int) : (cutP xs lo hi).length ≤ xs.length := by
  unfold cutP
  rw [List.length_take, List.length_drop]
  omega
theorem cat_len (a b : Str) : (a ++ b).length = a.length + b.length := by
  show (a.cps ++ b.cps).size = a.cps.size + b.cps.size
  simp
def isN (z : Str) : Bool := (sgs z).all (inS letters) && (decide (0 < z.length) && decide (z.length < 9))
def isF (z : Str) : Bool := (sgs z).all (inS figures) && ((decide (0 < z.length) && decide (z.length < 4)) && noZ z)
/-! ### whoms -/
def wl (ws : List Str) : D := .nd .lst true (ws.map .str)
theorem wl_fz (ws : List Str) : fzs (ws.map D.str) = true := by
  induction ws with
  | nil => rfl
  | cons x ws ih => simp [ih]
theorem ix_wl {ws : List Str} {i : Int} {j : Nat} (hi : i = j) {x : Str} (hx : ws[j]? = some x) (a : Nat) (e : Env) (he : gt e a = some (wl ws)) : ixR e (.sl a) (.int i) = some (.tm (.str x)) := by
  have hj : j < ws.length := (List.getElem?_eq_some_iff.mp hx).1
  have h1 : ixP (ws.map D.str).length i = some j := by rw [hi]; exact ixP_nat (by simpa using hj)
  have h2 : (ws.map D.str)[j]? = some (.str x) := by rw [List.getElem?_map, hx]; rfl
  simp only [ixR, R.get, he, wl, asSeq, h1, h2]
  rfl
theorem len_wl (ws : List Str) : P.ev .len [wl ws] = some (.int ws.length) := by
  rw [wl, v_lenl, List.length_map]
theorem word_at_ev (n : Nat) (ws : List Str) (i : Int) (j : Nat) (hi : i = j) (x : Str) (hx : ws[j]? = some x) : evF G fns (n + 1) 3 [wl ws, .int i] = some (.str x, [wl ws, .int i]) := by
  have hj : j < ws.length := (List.getElem?_eq_some_iff.mp hx).1
  have q : ¬ (ws.length : Int) ≤ i := by omega
  rw [evF_at (fn := f_word_at) rfl rfl]
  have hw : wl ws = .nd .lst true (ws.map .str) := rfl
  have hix := ix_wl hi hx
  have hl := len_wl ws
  generalize wl ws = W at *
  simp [f_word_at, startE, sms_nil, sms_cons, sm_asg, sm_sub, sm_expr, sm_iff, sm_for, sm_whil, sm_ret, sm_retn, sm_brk, sm_pass, ex_con, ex_glo, ex_kix, ex_dlit, ex_var, ex_vz, ex_pk, ex_mv, ex_cs, ex_prim, ex_ix, ex_tup, ex_lst, ex_nott, ex_ands, ex_ors, ex_ite, ex_chain, ex_call, ex_fld, ex_meth, ex_new, sm_sfld, sm_nev, ex_mut, ex_lc, exs_nil, exs_cons, it_seq, it_enum, enumT, nmbr, itemsT, it_rng1, it_rng2, gt, gets, R.get, Cn.d, bool1, tms, tm1, bindTg, endDs, lentOk, back, mutR, wrR, putR, M.ev, wipeE, setP, asSeq, asTup, v_ge, hl, q, hix]
def whN (x : Str) : Prop := isN x = true ∧ x.length ≤ 8
theorem isN_len {x : Str} (h : isN x = true) : x.length < 9 := by
  simp only [isN, Bool.and_eq_true, decide_eq_true_eq] at h
  exact h.2.2
theorem name_at_ev (n : Nat) (ws : List Str) (i : Int) (j : Nat) (hi : i = j) (x : Str) (hx : ws[j]? = some x) (hn : isN x = true) : evF G fns (n + 2) 4 [wl ws, .int i] = some (.str x, [wl ws, .int i]) := by
  rw [evF_at (fn := f_name_at) rfl rfl]
  have h1 := word_at_ev n ws i j hi x hx
  have h2 := is_name_ev n x (by have := isN_len hn; omega)
  have hn' : ((sgs x).all (inS letters) && (decide (0 < x.length) && decide (x.length < 9))) = true := hn
  rw [hn'] at h2
  have hix := ix_wl hi hx
  generalize wl ws = W at *
  simp [f_name_at, startE, sms_nil, sms_cons, sm_asg, sm_sub, sm_expr, sm_iff, sm_for, sm_whil, sm_ret, sm_retn, sm_brk, sm_pass, ex_con, ex_glo, ex_kix, ex_dlit, ex_var, ex_vz, ex_pk, ex_mv, ex_cs, ex_prim, ex_ix, ex_tup, ex_lst, ex_nott, ex_ands, ex_ors, ex_ite, ex_chain, ex_call, ex_fld, ex_meth, ex_new, sm_sfld, sm_nev, ex_mut, ex_lc, exs_nil, exs_cons, it_seq, it_enum, enumT, nmbr, itemsT, it_rng1, it_rng2, gt, gets, R.get, Cn.d, bool1, tms, tm1, bindTg, endDs, lentOk, back, mutR, wrR, putR, M.ev, wipeE, setP, asSeq, asTup, h1, h2, hix]
def numS (m : Nat) : Str := Str.ofString (toString ((m : Nat) : Int))
def numOk (m : Nat) : Bool := isF (numS m) && decide ((numS m).length ≤ 3)
theorem numOk_all : (List.range 1000).all numOk = true := by kernel_rfl
theorem num_ok {m : Nat} (h : m < 1000) : isF (numS m) = true ∧ (numS m).length ≤ 3 := by
  have := List.all_eq_true.mp numOk_all m (List.mem_range.mpr h)
  simpa [numOk] using this
theorem num_reads {m : Nat} (h : m < 1000) : PySem.intText? (numS m) = some (m : Int) := PySem.W.KIN.num_reads (by omega) (by omega)
theorem number_at_ev (n : Nat) (ws : List Str) (i : Int) (j : Nat) (hi : i = j) (m : Nat) (hx : ws[j]? = some (numS m)) (hm : m < 1000) (v : Int) (hv : v = m) : evF G fns (n + 2) 5 [wl ws, .int i] = some (.int v, [wl ws, .int i]) := by
  rw [evF_at (fn := f_number_at) rfl rfl]
  obtain ⟨hn, hl⟩ := num_ok hm
  have hr := num_reads hm
  rw [← hv] at hr
  have h1 := word_at_ev n ws i j hi (numS m) hx
  have h2 := is_number_ev n (numS m) (by omega)
  have hn' : ((sgs (numS m)).all (inS figures) && ((decide (0 < (numS m).length) && decide ((numS m).length < 4)) && noZ (numS m))) = true := hn
  rw [hn'] at h2
  have hix := ix_wl hi hx
  have h3 : P.ev .int_ [.str (numS m)] = some (.int v) := by
    show (if (numS m).length ≤ 640 then (PySem.intText? (numS m)).map D.int else none) = _
    rw [if_pos (by omega), hr]; rfl
  generalize wl ws = W at *
  generalize numS m = z at *
  simp [f_number_at, startE, sms_nil, sms_cons, sm_asg, sm_sub, sm_expr, sm_iff, sm_for, sm_whil, sm_ret, sm_retn, sm_brk, sm_pass, ex_con, ex_glo, ex_kix, ex_dlit, ex_var, ex_vz, ex_pk, ex_mv, ex_cs, ex_prim, ex_ix, ex_tup, ex_lst, ex_nott, ex_ands, ex_ors, ex_ite, ex_chain, ex_call, ex_fld, ex_meth, ex_new, sm_sfld, sm_nev, ex_mut, ex_lc, exs_nil, exs_cons, it_seq, it_enum, enumT, nmbr, itemsT, it_rng1, it_rng2, gt, gets, R.get, Cn.d, bool1, tms, tm1, bindTg, endDs, lentOk, back, mutR, wrR, putR, M.ev, wipeE, setP, asSeq, asTup, h1, h2, h3, hix]
theorem q_all_all : P.ev .eq [.str "all", .str "all"] = some (.bl true) := by kernel_rfl
theorem q_self_all : P.ev .eq [.str "self", .str "all"] = some (.bl false) := by kernel_rfl
theorem q_self_self : P.ev .eq [.str "self", .str "self"] = some (.bl true) := by kernel_rfl
theorem q_mine_all : P.ev .eq [.str "mine", .str "all"] = some (.bl false) := by kernel_rfl
theorem q_mine_self : P.ev .eq [.str "mine", .str "self"] = some (.bl false) := by kernel_rfl
theorem q_mine_mine : P.ev .eq [.str "mine", .str "mine"] = some (.bl true) := by kernel_rfl
theorem q_mark_all : P.ev .eq [.str "mark", .str "all"] = some (.bl false) := by kernel_rfl
theorem q_mark_self : P.ev .eq [.str "mark", .str "self"] = some (.bl false) := by kernel_rfl
theorem q_mark_mine : P.ev .eq [.str "mark", .str "mine"] = some (.bl false) := by kernel_rfl
theorem q_mark_mark : P.ev .eq [.str "mark", .str "mark"] = some (.bl true) := by kernel_rfl
theorem q_force_all : P.ev .eq [.str "force", .str "all"] = some (.bl false) := by kernel_rfl
theorem q_force_self : P.ev .eq [.str "force", .str "self"] = some (.bl false) := by kernel_rfl
theorem q_force_mine : P.ev .eq [.str "force", .str "mine"] = some (.bl false) := by kernel_rfl
theorem q_force_mark : P.ev .eq [.str "force", .str "mark"] = some (.bl false) := by kernel_rfl
theorem q_force_force : P.ev .eq [.str "force", .str "force"] = some (.bl true) := by kernel_rfl
theorem q_not_all : P.ev .eq [.str "not", .str "all"] = some (.bl false) := by kernel_rfl
theorem q_not_self : P.ev .eq [.str "not", .str "self"] = some (.bl false) := by kernel_rfl
theorem q_not_mine : P.ev .eq [.str "not", .str "mine"] = some (.bl false) := by kernel_rfl
theorem q_not_mark : P.ev .eq [.str "not", .str "mark"] = some (.bl false) := by kernel_rfl
theorem q_not_force : P.ev .eq [.str "not", .str "force"] = some (.bl false) := by kernel_rfl
theorem q_not_not : P.ev .eq [.str "not", .str "not"] = some (.bl true) := by kernel_rfl
theorem q_both_all : P.ev .eq [.str "both", .str "all"] = some (.bl false) := by kernel_rfl
theorem q_both_self : P.ev .eq [.str "both", .str "self"] = some (.bl false) := by kernel_rfl
theorem q_both_mine : P.ev .eq [.str "both", .str "mine"] = some (.bl false) := by kernel_rfl
theorem q_both_mark : P.ev .eq [.str "both", .str "mark"] = some (.bl false) := by kernel_rfl
theorem q_both_force : P.ev .eq [.str "both", .str "force"] = some (.bl false) := by kernel_rfl
theorem q_both_not : P.ev .eq [.str "both", .str "not"] = some (.bl false) := by kernel_rfl
theorem q_any_all : P.ev .eq [.str "any", .str "all"] = some (.bl false) := by kernel_rfl
theorem q_any_self : P.ev .eq [.str "any", .str "self"] = some (.bl false) := by kernel_rfl
theorem q_any_mine : P.ev .eq [.str "any", .str "mine"] = some (.bl false) := by kernel_rfl
theorem q_any_mark : P.ev .eq [.str "any", .str "mark"] = some (.bl false) := by kernel_rfl
theorem q_any_force : P.ev .eq [.str "any", .str "force"] = some (.bl false) := by kernel_rfl
theorem q_any_not : P.ev .eq [.str "any", .str "not"] = some (.bl false) := by kernel_rfl
theorem q_bothany (w : Bool) : P.ev .notin [.str (if w then "both" else "any"), .nd .tup false [.str "both", .str "any"]] = some (.bl false) := by cases w <;> kernel_rfl
/-- a whom -/
inductive Wh | all | self | mine | mark (n : Str) | force (m : Nat) | not (a : Wh) | pair (w : Bool) (a b : Wh)
def pw (w : Bool) : Str := if w then "both" else "any"
def Wh.size : Wh → Nat
  | .not a => 1 + a.size
  | .pair _ a b => 1 + a.size + b.size
  | _ => 1
def Wh.dep : Wh → Nat
  | .not a => 1 + a.dep
  | .pair _ a b => 1 + max a.dep b.dep
  | _ => 0
def Wh.words : Wh → List Str
  | .all => ["all"] | .self => ["self"] | .mine => ["mine"]
  | .mark n => ["mark", n] | .force m => ["force", numS m]
  | .not a => "not" :: a.words
  | .pair w a b => pw w :: (a.words ++ b.words)
def Wh.Ok : Wh → Prop
  | .mark n => isN n = true
  | .force m => m < 1000
  | .not a => a.Ok
  | .pair _ a b => a.Ok ∧ b.Ok
  | _ => True
/-- as it stands, locked -/
def Wh.fd : Wh → D
  | .all => .nd (.ins 0 []) false [] | .self => .nd (.ins 1 []) false [] | .mine => .nd (.ins 2 []) false []
  | .mark n => .nd (.ins 3 ["name"]) false [.str n]
  | .force m => .nd (.ins 4 ["least"]) false [.int m]
  | .not a => .nd (.ins 5 ["part"]) false [a.fd]
  | .pair w a b => .nd (.ins 6 ["word", "one", "other"]) false [.str (pw w), a.fd, b.fd]
/-- as it is made -/
def Wh.od : Wh → D
  | .all => .nd (.ins 0 []) true [] | .self => .nd (.ins 1 []) true [] | .mine => .nd (.ins 2 []) true []
  | .mark n => .nd (.ins 3 ["name"]) true [.str n]
  | .force m => .nd (.ins 4 ["least"]) true [.int m]
  | .not a => .nd (.ins 5 ["part"]) true [a.fd]
  | .pair w a b => .nd (.ins 6 ["word", "one", "other"]) true [.str (pw w), a.fd, b.fd]
theorem Wh.fr_fd : ∀ w : Wh, w.fd.fr = w.fd
  | .all => rfl | .self => rfl | .mine => rfl | .mark _ => rfl | .force _ => rfl
  | .not a => by simp [Wh.fd, Wh.fr_fd a]
  | .pair _ a b => by simp [Wh.fd, Wh.fr_fd a, Wh.fr_fd b]
theorem Wh.fz_fd : ∀ w : Wh, w.fd.fz = true
  | .all => rfl | .self => rfl | .mine => rfl | .mark _ => rfl | .force _ => rfl
  | .not a => by simp [Wh.fd, Wh.fz_fd a]
  | .pair _ a b => by simp [Wh.fd, Wh.fz_fd a, Wh.fz_fd b]
theorem Wh.fr_od : ∀ w : Wh, w.od.fr = w.fd
  | .all => rfl | .self => rfl | .mine => rfl | .mark _ => rfl | .force _ => rfl
  | .not a => by simp [Wh.od, Wh.fd, Wh.fr_fd a]
  | .pair _ a b => by simp [Wh.od, Wh.fd, Wh.fr_fd a, Wh.fr_fd b]
theorem Wh.nz_od : ∀ w : Wh, w.od.fz = false
  | .all => rfl | .self => rfl | .mine => rfl | .mark _ => rfl | .force _ => rfl
  | .not a => rfl
  | .pair _ a b => rfl
theorem Wh.size_pos (w : Wh) : 1 ≤ w.size := by cases w <;> simp [Wh.size] <;> omega
theorem i_mark (n : Nat) (x : Str) : evF G fns (n + 1) 21 [.nd (.ins 3 []) true [], .str x] = some (.non, [.nd (.ins 3 ["name"]) true [.str x], .str x]) := by kernel_rfl
theorem i_force (n : Nat) (x : Int) : evF G fns (n + 1) 23 [.nd (.ins 4 []) true [], .int x] = some (.non, [.nd (.ins 4 ["least"]) true [.int x], .int x]) := by kernel_rfl
theorem i_not (n : Nat) (x : D) : evF G fns (n + 1) 25 [.nd (.ins 5 []) true [], x] = some (.non, [.nd (.ins 5 ["part"]) true [x.fr], x.fr]) := by kernel_rfl
theorem i_pair (n : Nat) (w : Str) (x y : D) : evF G fns (n + 1) 27 [.nd (.ins 6 []) true [], .str w, x, y] = some (.non, [.nd (.ins 6 ["word", "one", "other"]) true [.str w, x.fr, y.fr], .str w, x.fr, y.fr]) := by kernel_rfl
theorem gi0 : G.init 0 = none := rfl
theorem gi1 : G.init 1 = none := rfl
theorem gi2 : G.init 2 = none := rfl
theorem gi3 : G.init 3 = some 21 := rfl
theorem gi4 : G.init 4 = some 23 := rfl
theorem gi5 : G.init 5 = some 25 := rfl
theorem gi6 : G.init 6 = some 27 := rfl
def pb : Sms := f_part_at.body
def At (ws : List Str) (j : Nat) (xs : List Str) : Prop := ∀ t x, xs[t]? = some x → ws[j + t]? = some x
theorem At.left {ws : List Str} {j : Nat} {a b : List Str} (h : At ws j (a ++ b)) : At ws j a := fun t x e => h t x (by rw [List.getElem?_append_left (List.getElem?_eq_some_iff.mp e).1]; exact e)
theorem At.right {ws : List Str} {j : Nat} {a b : List Str} (h : At ws j (a ++ b)) : At ws (j + a.length) b := fun t x e => by
  rw [Nat.add_assoc]
  exact h (a.length + t) x (by rw [List.getElem?_append_right (by omega)]; simpa using e)
theorem At.tail {ws : List Str} {j : Nat} {a : Str} {b : List Str} (h : At ws j (a :: b)) : At ws (j + 1) b := fun t x e => by
  rw [Nat.add_assoc, Nat.add_comm 1 t]
  exact h (t + 1) x (by simpa using e)
theorem At.head {ws : List Str} {j : Nat} {a : Str} {b : List Str} (h : At ws j (a :: b)) : ws[j]? = some a := h 0 a rfl
theorem part_start (n : Nat) (ws : List Str) (i l : Int) (j : Nat) (hi : i = j) (x : Str) (hx : ws[j]? = some x) (hl : 1 ≤ l) :
    Sms.ev G (evF G fns (n + 1)) pb [some (wl ws), some (.int i), some (.int l), none, none, none, none, none, none] = Sms.ev G (evF G fns (n + 1)) (tl (tl pb)) [some (wl ws), some (.int i), some (.int l), some (.str x), none, none, none, none, none] := by
  have h1 := word_at_ev n ws i j hi x hx
  have hl0 : ¬ l = 0 := by omega
  have e : pb = .cons (hd pb) (.cons (hd (tl pb)) (tl (tl pb))) := rfl
  generalize wl ws = W at *
  have s1 : (hd pb).ev G (evF G fns (n + 1)) [some W, some (.int i), some (.int l), none, none, none, none, none, none] = some (.nx [some W, some (.int i), some (.int l), none, none, none, none, none, none]) := by
    simp [hd, pb, f_part_at, sms_nil, sms_cons, sm_asg, sm_sub, sm_expr, sm_iff, sm_for, sm_whil, sm_ret, sm_retn, sm_brk, sm_pass, ex_con, ex_glo, ex_kix, ex_dlit, ex_var, ex_vz, ex_pk, ex_mv, ex_cs, ex_prim, ex_ix, ex_tup, ex_lst, ex_nott, ex_ands, ex_ors, ex_ite, ex_chain, ex_call, ex_fld, ex_meth, ex_new, sm_sfld, sm_nev, ex_mut, ex_lc, exs_nil, exs_cons, it_seq, it_enum, enumT, nmbr, itemsT, it_rng1, it_rng2, gt, gets, R.get, Cn.d, bool1, tms, tm1, bindTg, endDs, lentOk, back, mutR, wrR, putR, M.ev, wipeE, setP, asSeq, asTup, v_eqi, hl0]
  have s2 : (hd (tl pb)).ev G (evF G fns (n + 1)) [some W, some (.int i), some (.int l), none, none, none, none, none, none] = some (.nx [some W, some (.int i), some (.int l), some (.str x), none, none, none, none, none]) := by
    simp [hd, tl, pb, f_part_at, sms_nil, sms_cons, sm_asg, sm_sub, sm_expr, sm_iff, sm_for, sm_whil, sm_ret, sm_retn, sm_brk, sm_pass, ex_con, ex_glo, ex_kix, ex_dlit, ex_var, ex_vz, ex_pk, ex_mv, ex_cs, ex_prim, ex_ix, ex_tup, ex_lst, ex_nott, ex_ands, ex_ors, ex_ite, ex_chain, ex_call, ex_fld, ex_meth, ex_new, sm_sfld, sm_nev, ex_mut, ex_lc, exs_nil, exs_cons, it_seq, it_enum, enumT, nmbr, itemsT, it_rng1, it_rng2, gt, gets, R.get, Cn.d, bool1, tms, tm1, bindTg, endDs, lentOk, back, mutR, wrR, putR, M.ev, wipeE, setP, asSeq, asTup, h1]
  rw [e, sms_cons, s1]
  simp only []
  rw [sms_cons, s2]
  rfl
theorem part_fin (n : Nat) (W : D) (i l : Int) (d : D) (x : Option D) (e1 e2 : Env) (h1 : Sms.ev G (evF G fns n) pb [some W, some (.int i), some (.int l), none, none, none, none, none, none] = Sms.ev G (evF G fns n) (tl (tl pb)) e1)
    (h : ∃ r, Sms.ev G (evF G fns n) (tl (tl pb)) e1 = some (.ret d (some W :: some (.int i) :: some (.int l) :: r))) : evF G fns (n + 1) 6 [W, .int i, .int l] = some (d, [W, .int i, .int l]) := by
  obtain ⟨r, h⟩ := h
  rw [evF_at (fn := f_part_at) rfl rfl]
  have st : startE f_part_at [W, .int i, .int l] = [some W, some (.int i), some (.int l), none, none, none, none, none, none] := rfl
  have eb : f_part_at.body = pb := rfl
  rw [st, eb, h1, h]
  rfl
theorem part_at_ev : ∀ (w : Wh), w.Ok → ∀ (n : Nat), w.dep + 2 ≤ n → ∀ (ws : List Str) (i l v u : Int) (j : Nat), i = j → At ws j w.words → (w.size : Int) ≤ l → v = i + w.words.length → u = l - w.size →
    evF G fns (n + 1) 6 [wl ws, .int i, .int l] = some (.tup [w.od, .int v, .int u], [wl ws, .int i, .int l])
  | .all, _, n, hn, ws, i, l, v, u, j, hi, hat, hl, hv, hu => by
    obtain ⟨n, rfl⟩ : ∃ m, n = m + 1 := ⟨n - 1, by omega⟩
    simp only [Wh.size, Wh.words, List.length_cons, List.length_nil] at hl hv hu
    have hx := hat.head
    have h0 := part_start n ws i l j hi "all" hx (by omega)
    have ev : i + 1 = v := by omega
    have eu : l - 1 = u := by omega
    refine part_fin _ _ _ _ _ none _ [] h0 ?_
    generalize wl ws = W
    exact ⟨_, by simp [tl, pb, f_part_at, sms_nil, sms_cons, sm_asg, sm_sub, sm_expr, sm_iff, sm_for, sm_whil, sm_ret, sm_retn, sm_brk, sm_pass, ex_con, ex_glo, ex_kix, ex_dlit, ex_var, ex_vz, ex_pk, ex_mv, ex_cs, ex_prim, ex_ix, ex_tup, ex_lst, ex_nott, ex_ands, ex_ors, ex_ite, ex_chain, ex_call, ex_fld, ex_meth, ex_new, sm_sfld, sm_nev, ex_mut, ex_lc, exs_nil, exs_cons, it_seq, it_enum, enumT, nmbr, itemsT, it_rng1, it_rng2, gt, gets, R.get, Cn.d, bool1, tms, tm1, bindTg, endDs, lentOk, back, mutR, wrR, putR, M.ev, wipeE, setP, asSeq, asTup, q_all_all, gi0, gi1, gi2, v_add, v_sub, ev, eu, sLine, Wh.od]; rfl⟩
  | .self, _, n, hn, ws, i, l, v, u, j, hi, hat, hl, hv, hu => by
    obtain ⟨n, rfl⟩ : ∃ m, n = m + 1 := ⟨n - 1, by omega⟩
    simp only [Wh.size, Wh.words, List.length_cons, List.length_nil] at hl hv hu
    have hx := hat.head
    have h0 := part_start n ws i l j hi "self" hx (by omega)
    have ev : i + 1 = v := by omega
    have eu : l - 1 = u := by omega
    refine part_fin _ _ _ _ _ none _ [] h0 ?_
    generalize wl ws = W
    exact ⟨_, by simp [tl, pb, f_part_at, sms_nil, sms_cons, sm_asg, sm_sub, sm_expr, sm_iff, sm_for, sm_whil, sm_ret, sm_retn, sm_brk, sm_pass, ex_con, ex_glo, ex_kix, ex_dlit, ex_var, ex_vz, ex_pk, ex_mv, ex_cs, ex_prim, ex_ix, ex_tup, ex_lst, ex_nott, ex_ands, ex_ors, ex_ite, ex_chain, ex_call, ex_fld, ex_meth, ex_new, sm_sfld, sm_nev, ex_mut, ex_lc, exs_nil, exs_cons, it_seq, it_enum, enumT, nmbr, itemsT, it_rng1, it_rng2, gt, gets, R.get, Cn.d, bool1, tms, tm1, bindTg, endDs, lentOk, back, mutR, wrR, putR, M.ev, wipeE, setP, asSeq, asTup, q_self_all, q_self_self, gi0, gi1, gi2, v_add, v_sub, ev, eu, sLine, Wh.od]; rfl⟩
  | .mine, _, n, hn, ws, i, l, v, u, j, hi, hat, hl, hv, hu => by
    obtain ⟨n, rfl⟩ : ∃ m, n = m + 1 := ⟨n - 1, by omega⟩
    simp only [Wh.size, Wh.words, List.length_cons, List.length_nil] at hl hv hu
    have hx := hat.head
    have h0 := part_start n ws i l j hi "mine" hx (by omega)
    have ev : i + 1 = v := by omega
    have eu : l - 1 = u := by omega
    refine part_fin _ _ _ _ _ none _ [] h0 ?_
    generalize wl ws = W
    exact ⟨_, by simp [tl, pb, f_part_at, sms_nil, sms_cons, sm_asg, sm_sub, sm_expr, sm_iff, sm_for, sm_whil, sm_ret, sm_retn, sm_brk, sm_pass, ex_con, ex_glo, ex_kix, ex_dlit, ex_var, ex_vz, ex_pk, ex_mv, ex_cs, ex_prim, ex_ix, ex_tup, ex_lst, ex_nott, ex_ands, ex_ors, ex_ite, ex_chain, ex_call, ex_fld, ex_meth, ex_new, sm_sfld, sm_nev, ex_mut, ex_lc, exs_nil, exs_cons, it_seq, it_enum, enumT, nmbr, itemsT, it_rng1, it_rng2, gt, gets, R.get, Cn.d, bool1, tms, tm1, bindTg, endDs, lentOk, back, mutR, wrR, putR, M.ev, wipeE, setP, asSeq, asTup, q_mine_all, q_mine_self, q_mine_mine, gi0, gi1, gi2, v_add, v_sub, ev, eu, sLine, Wh.od]; rfl⟩
  | .mark x, ok, n, hn, ws, i, l, v, u, j, hi, hat, hl, hv, hu => by
    obtain ⟨n, rfl⟩ : ∃ m, n = m + 2 := ⟨n - 2, by omega⟩
    simp only [Wh.size, Wh.words, List.length_cons, List.length_nil] at hl hv hu
    have hx := hat.head
    have h0 := part_start (n + 1) ws i l j hi "mark" hx (by omega)
    have h1 := name_at_ev n ws (i + 1) (j + 1) (by omega) x hat.tail.head ok
    have h2 := i_mark (n + 1) x
    have ev : i + 2 = v := by omega
    have eu : l - 1 = u := by omega
    refine part_fin _ _ _ _ _ none _ [] h0 ?_
    generalize wl ws = W at *
    exact ⟨_, by simp [tl, pb, f_part_at, sms_nil, sms_cons, sm_asg, sm_sub, sm_expr, sm_iff, sm_for, sm_whil, sm_ret, sm_retn, sm_brk, sm_pass, ex_con, ex_glo, ex_kix, ex_dlit, ex_var, ex_vz, ex_pk, ex_mv, ex_cs, ex_prim, ex_ix, ex_tup, ex_lst, ex_nott, ex_ands, ex_ors, ex_ite, ex_chain, ex_call, ex_fld, ex_meth, ex_new, sm_sfld, sm_nev, ex_mut, ex_lc, exs_nil, exs_cons, it_seq, it_enum, enumT, nmbr, itemsT, it_rng1, it_rng2, gt, gets, R.get, Cn.d, bool1, tms, tm1, bindTg, endDs, lentOk, back, mutR, wrR, putR, M.ev, wipeE, setP, asSeq, asTup, q_mark_all, q_mark_self, q_mark_mine, q_mark_mark, gi3, h1, h2, v_add, v_sub, ev, eu, sLine, Wh.od]; rfl⟩
  | .force m, ok, n, hn, ws, i, l, v, u, j, hi, hat, hl, hv, hu => by
    obtain ⟨n, rfl⟩ : ∃ m, n = m + 2 := ⟨n - 2, by omega⟩
    simp only [Wh.size, Wh.words, List.length_cons, List.length_nil] at hl hv hu
    have hx := hat.head
    obtain ⟨mi, hmi⟩ : ∃ mi : Int, mi = m := ⟨_, rfl⟩
    have h0 := part_start (n + 1) ws i l j hi "force" hx (by omega)
    have h1 := number_at_ev n ws (i + 1) (j + 1) (by omega) m hat.tail.head ok mi hmi
    have h2 := i_force (n + 1) mi
    have ev : i + 2 = v := by omega
    have eu : l - 1 = u := by omega
    refine part_fin _ _ _ _ _ none _ [] h0 ?_
    generalize wl ws = W at *
    simp only [Wh.od]
    rw [← hmi]
    exact ⟨_, by simp [tl, pb, f_part_at, sms_nil, sms_cons, sm_asg, sm_sub, sm_expr, sm_iff, sm_for, sm_whil, sm_ret, sm_retn, sm_brk, sm_pass, ex_con, ex_glo, ex_kix, ex_dlit, ex_var, ex_vz, ex_pk, ex_mv, ex_cs, ex_prim, ex_ix, ex_tup, ex_lst, ex_nott, ex_ands, ex_ors, ex_ite, ex_chain, ex_call, ex_fld, ex_meth, ex_new, sm_sfld, sm_nev, ex_mut, ex_lc, exs_nil, exs_cons, it_seq, it_enum, enumT, nmbr, itemsT, it_rng1, it_rng2, gt, gets, R.get, Cn.d, bool1, tms, tm1, bindTg, endDs, lentOk, back, mutR, wrR, putR, M.ev, wipeE, setP, asSeq, asTup, q_force_all, q_force_self, q_force_mine, q_force_mark, q_force_force, gi4, h1, h2, v_add, v_sub, ev, eu, sLine]; rfl⟩
  | .not a, ok, n, hn, ws, i, l, v, u, j, hi, hat, hl, hv, hu => by
    simp only [Wh.dep] at hn
    obtain ⟨n, rfl⟩ : ∃ m, n = m + 1 := ⟨n - 1, by omega⟩
    simp only [Wh.size, Wh.words, List.length_cons] at hl hv hu
    have h0 := part_start n ws i l j hi "not" hat.head (by omega)
    have h1 := part_at_ev a ok n (by omega) ws (i + 1) (l - 1) v u (j + 1) (by omega) hat.tail (by omega) (by omega) (by omega)
    have h2 := i_not n a.od
    rw [Wh.fr_od] at h2
    refine part_fin _ _ _ _ _ none _ [] h0 ?_
    simp only [Wh.od]
    generalize wl ws = W at *
    have f1 := a.nz_od
    generalize a.od = A at *
    generalize a.fd = B at *
    exact ⟨_, by simp [tl, pb, f_part_at, sms_nil, sms_cons, sm_asg, sm_sub, sm_expr, sm_iff, sm_for, sm_whil, sm_ret, sm_retn, sm_brk, sm_pass, ex_con, ex_glo, ex_kix, ex_dlit, ex_var, ex_vz, ex_pk, ex_mv, ex_cs, ex_prim, ex_ix, ex_tup, ex_lst, ex_nott, ex_ands, ex_ors, ex_ite, ex_chain, ex_call, ex_fld, ex_meth, ex_new, sm_sfld, sm_nev, ex_mut, ex_lc, exs_nil, exs_cons, it_seq, it_enum, enumT, nmbr, itemsT, it_rng1, it_rng2, gt, gets, R.get, Cn.d, bool1, tms, tm1, bindTg, endDs, lentOk, back, mutR, wrR, putR, M.ev, wipeE, setP, asSeq, asTup, q_not_all, q_not_self, q_not_mine, q_not_mark, q_not_force, q_not_not, gi5, h1, h2, v_add, v_sub, sLine, f1]; rfl⟩
  | .pair w a b, ok, n, hn, ws, i, l, v, u, j, hi, hat, hl, hv, hu => by
    simp only [Wh.dep] at hn
    obtain ⟨n, rfl⟩ : ∃ m, n = m + 1 := ⟨n - 1, by omega⟩
    simp only [Wh.size, Wh.words, List.length_cons, List.length_append] at hl hv hu
    have h0 := part_start n ws i l j hi (pw w) hat.head (by omega)
    obtain ⟨v1, hv1⟩ : ∃ v1 : Int, v1 = i + 1 + a.words.length := ⟨_, rfl⟩
    obtain ⟨u1, hu1⟩ : ∃ u1 : Int, u1 = l - 1 - a.size := ⟨_, rfl⟩
    have h1 := part_at_ev a ok.1 n (by omega) ws (i + 1) (l - 1) v1 u1 (j + 1) (by omega) hat.tail.left (by omega) hv1 hu1
    have h3 := part_at_ev b ok.2 n (by omega) ws v1 u1 v u (j + 1 + a.words.length) (by omega) hat.tail.right (by omega) (by omega) (by omega)
    have h2 := i_pair n (pw w) a.od b.od
    rw [Wh.fr_od, Wh.fr_od] at h2
    refine part_fin _ _ _ _ _ none _ [] h0 ?_
    simp only [Wh.od]
    have f1 := a.nz_od
    have f2 := b.nz_od
    have qb : P.ev .notin [.str (pw w), .nd .tup false [.str "both", .str "any"]] = some (.bl false) := q_bothany w
    have qw : P.ev .eq [.str (pw w), .str "all"] = some (.bl false) ∧ P.ev .eq [.str (pw w), .str "self"] = some (.bl false) ∧ P.ev .eq [.str (pw w), .str "mine"] = some (.bl false) ∧ P.ev .eq [.str (pw w), .str "mark"] = some (.bl false) ∧ P.ev .eq [.str (pw w), .str "force"] = some (.bl false) ∧ P.ev .eq [.str (pw w), .str "not"] = some (.bl false) := by
      cases w
      · exact ⟨q_any_all, q_any_self, q_any_mine, q_any_mark, q_any_force, q_any_not⟩
      · exact ⟨q_both_all, q_both_self, q_both_mine, q_both_mark, q_both_force, q_both_not⟩
    obtain ⟨z1, z2, z3, z4, z5, z6⟩ := qw
    generalize wl ws = W at *
    generalize a.od = A at *
    generalize a.fd = A2 at *
    generalize b.od = B at *
    generalize b.fd = B2 at *
    generalize pw w = pww at *
    exact ⟨_, by simp [tl, pb, f_part_at, sms_nil, sms_cons, sm_asg, sm_sub, sm_expr, sm_iff, sm_for, sm_whil, sm_ret, sm_retn, sm_brk, sm_pass, ex_con, ex_glo, ex_kix, ex_dlit, ex_var, ex_vz, ex_pk, ex_mv, ex_cs, ex_prim, ex_ix, ex_tup, ex_lst, ex_nott, ex_ands, ex_ors, ex_ite, ex_chain, ex_call, ex_fld, ex_meth, ex_new, sm_sfld, sm_nev, ex_mut, ex_lc, exs_nil, exs_cons, it_seq, it_enum, enumT, nmbr, itemsT, it_rng1, it_rng2, gt, gets, R.get, Cn.d, bool1, tms, tm1, bindTg, endDs, lentOk, back, mutR, wrR, putR, M.ev, wipeE, setP, asSeq, asTup, z1, z2, z3, z4, z5, z6, qb, gi6, h1, h2, h3, v_add, v_sub, sLine, f1, f2]; rfl⟩
theorem cl_m : G.consts.lookup ("MOST_WORDS" : Str) = some (D.int 9) := by rfl
theorem whom_at_ev (w : Wh) (ok : w.Ok) (n : Nat) (hn : w.dep + 3 ≤ n) (ws : List Str) (i v : Int) (j : Nat) (hi : i = j) (hat : At ws j w.words) (hs : w.size ≤ 9) (hv : v = i + w.words.length) :
    evF G fns (n + 1) 7 [wl ws, .int i] = some (.tup [w.fd, .int v], [wl ws, .int i]) := by
  obtain ⟨n, rfl⟩ : ∃ m, n = m + 1 := ⟨n - 1, by omega⟩
  have h1 := part_at_ev w ok n (by omega) ws i 9 v (9 - w.size) j hi hat (by omega) hv rfl
  generalize (9 : Int) - w.size = u at h1
  have f1 := w.fr_od
  rw [evF_at (fn := f_whom_at) rfl rfl]
  generalize wl ws = W at *
  generalize w.od = A at *
  generalize w.fd = B at *
  simp [f_whom_at, startE, sms_nil, sms_cons, sm_asg, sm_sub, sm_expr, sm_iff, sm_for, sm_whil, sm_ret, sm_retn, sm_brk, sm_pass, ex_con, ex_glo, ex_kix, ex_dlit, ex_var, ex_vz, ex_pk, ex_mv, ex_cs, ex_prim, ex_ix, ex_tup, ex_lst, ex_nott, ex_ands, ex_ors, ex_ite, ex_chain, ex_call, ex_fld, ex_meth, ex_new, sm_sfld, sm_nev, ex_mut, ex_lc, exs_nil, exs_cons, it_seq, it_enum, enumT, nmbr, itemsT, it_rng1, it_rng2, gt, gets, R.get, Cn.d, bool1, tms, tm1, bindTg, endDs, lentOk, back, mutR, wrR, putR, M.ev, wipeE, setP, asSeq, asTup, h1, cl_m, f1, sLine]
/-- its text -/
def Wh.text (w : Wh) : Str := PySem.Str.join " " w.words
def noB (x : Str) : Prop := 32 ∉ x.cps.toList
theorem inS_mem {x : Str} {s : Str} (h : (sgs x).all (inS s) = true) : ∀ c ∈ x.cps.toList, c ∈ s.cps.toList := fun c hc => by
  have := List.all_eq_true.mp h (.str ⟨#[c]⟩) (List.mem_map.mpr ⟨c, hc, rfl⟩)
  simpa [inS_c] using this
theorem noB_name {x : Str} (h : isN x = true) : noB x := fun hc => by
  simp only [isN, Bool.and_eq_true] at h
  have := inS_mem h.1 32 hc
  exact absurd this (by decide +kernel)
theorem noB_num {x : Str} (h : isF x = true) : noB x := fun hc => by
  simp only [isF, Bool.and_eq_true] at h
  have := inS_mem h.1 32 hc
  exact absurd this (by decide +kernel)
theorem Wh.noB : ∀ w : Wh, w.Ok → ∀ x ∈ w.words, noB x
  | .all, _, x, h => by rw [List.mem_singleton.mp h]; unfold TK.K03.noB; decide +kernel
  | .self, _, x, h => by rw [List.mem_singleton.mp h]; unfold TK.K03.noB; decide +kernel
  | .mine, _, x, h => by rw [List.mem_singleton.mp h]; unfold TK.K03.noB; decide +kernel
  | .mark n, ok, x, h => by
    rcases List.mem_cons.mp h with rfl | h
    · unfold TK.K03.noB; decide +kernel
    · rw [List.mem_singleton.mp h]; exact noB_name ok
  | .force m, ok, x, h => by
    rcases List.mem_cons.mp h with rfl | h
    · unfold TK.K03.noB; decide +kernel
    · rw [List.mem_singleton.mp h]; exact noB_num (num_ok ok).1
  | .not a, ok, x, h => by
    rcases List.mem_cons.mp h with rfl | h
    · unfold TK.K03.noB; decide +kernel
    · exact a.noB ok x h
  | .pair w a b, ok, x, h => by
    rcases List.mem_cons.mp h with rfl | h
    · unfold TK.K03.noB; cases w <;> decide +kernel
    · rcases List.mem_append.mp h with h | h
      · exact a.noB ok.1 x h
      · exact b.noB ok.2 x h
theorem Wh.words_ne (w : Wh) : w.words ≠ [] := by cases w <;> simp [Wh.words]
theorem split_text {ws : List Str} (h0 : ws ≠ []) (h : ∀ x ∈ ws, noB x) : PySem.Txt.split (PySem.Str.join " " ws) " " = ws := by
  rw [← TL.join_eq]
  exact TL.split_join (s := 32) (S := []) (by decide +kernel) (by decide +kernel) h0 h
theorem join_cons (s x : Str) {xs : List Str} (h : xs ≠ []) : PySem.Str.join s (x :: xs) = x ++ s ++ PySem.Str.join s xs := by
  cases xs with
  | nil => exact absurd rfl h
  | cons y ys => rfl
theorem cat_assoc (a b c : Str) : a ++ b ++ c = a ++ (b ++ c) := by
  show (⟨(a.cps ++ b.cps) ++ c.cps⟩ : Str) = ⟨a.cps ++ (b.cps ++ c.cps)⟩
  rw [Array.append_assoc]
theorem join_app (s : Str) : ∀ {xs ys : List Str}, xs ≠ [] → ys ≠ [] → PySem.Str.join s (xs ++ ys) = PySem.Str.join s xs ++ s ++ PySem.Str.join s ys
  | [], _, h, _ => absurd rfl h
  | [x], ys, _, h => by rw [List.cons_append, List.nil_append, join_cons s x h]; rfl
  | x :: y :: r, ys, _, h => by
    rw [List.cons_append, join_cons s x (by simp), join_app s (xs := y :: r) (by simp) h, join_cons s x (xs := y :: r) (by simp)]
    simp only [cat_assoc]
theorem Wh.tlen : ∀ w : Wh, w.Ok → w.text.length ≤ 20 * w.size
  | .all, _ => by decide +kernel
  | .self, _ => by decide +kernel
  | .mine, _ => by decide +kernel
  | .mark n, ok => by
    have := isN_len ok
    have e : (Wh.mark n).text = "mark" ++ " " ++ n := rfl
    rw [e, cat_len]
    have : ("mark" ++ " " : Str).length = 5 := by decide +kernel
    simp only [Wh.size]; omega
  | .force m, ok => by
    have := (num_ok ok).2
    have e : (Wh.force m).text = "force" ++ " " ++ numS m := rfl
    rw [e, cat_len]
    have : ("force" ++ " " : Str).length = 6 := by decide +kernel
    simp only [Wh.size]; omega
  | .not a, ok => by
    have := a.tlen ok
    have e : (Wh.not a).text = "not" ++ " " ++ a.text := join_cons _ _ a.words_ne
    rw [e, cat_len]
    have : ("not" ++ " " : Str).length = 4 := by decide +kernel
    simp only [Wh.size]; omega
  | .pair w a b, ok => by
    have h1 := a.tlen ok.1
    have h2 := b.tlen ok.2
    have e : (Wh.pair w a b).text = pw w ++ " " ++ (a.text ++ " " ++ b.text) := by
      show PySem.Str.join " " (pw w :: (a.words ++ b.words)) = _
      rw [join_cons _ _ (by simp [a.words_ne]), join_app _ a.words_ne b.words_ne]
      rfl
    rw [e, cat_len, cat_len, cat_len, cat_len]
    have h3 : (pw w).length ≤ 4 := by cases w <;> decide +kernel
    have h4 : (" " : Str).length = 1 := by decide +kernel
    simp only [Wh.size]; omega
theorem len_join : ∀ (s : Str) (ys : List Str), (ys.map fun y => y.length).sum + ys.length * s.length = (PySem.Str.join s ys).length + (if ys = [] then 0 else s.length)
  | s, [] => by simp [PySem.Str.join]; rfl
  | s, [y] => by
    show [y.length].sum + 1 * s.length = y.length + _
    simp
  | s, y :: z :: r => by
    have ih := len_join s (z :: r)
    rw [join_cons s y (by simp), cat_len, cat_len]
    simp only [List.map_cons, List.sum_cons, List.length_cons, reduceCtorEq, if_false] at ih ⊢
    rw [Nat.add_mul] at ih ⊢
    rw [Nat.add_mul]
    omega
theorem add_wl (o o' : Bool) (x y : List Str) (h : x.length + y.length ≤ 1000) : P.ev .add [.nd .lst o (x.map .str), .nd .lst o' (y.map .str)] = some (wl (x ++ y)) := by
  rw [v_addl, if_pos]
  · simp [wl]
  · simp [wl_fz, sLine]; omega
theorem Wh.wlen : ∀ w : Wh, w.words.length ≤ 2 * w.size
  | .all => by decide
  | .self => by decide
  | .mine => by decide
  | .mark _ => by simp [Wh.words, Wh.size]
  | .force _ => by simp [Wh.words, Wh.size]
  | .not a => by have := a.wlen; simp only [Wh.words, Wh.size, List.length_cons]; omega
  | .pair _ a b => by have := a.wlen; have := b.wlen; simp only [Wh.words, Wh.size, List.length_cons, List.length_append]; omega
theorem Wh.dsz : ∀ w : Wh, w.dep ≤ w.size
  | .all => by decide
  | .self => by decide
  | .mine => by decide
  | .mark _ => by simp [Wh.dep]
  | .force _ => by simp [Wh.dep]
  | .not a => by have := a.dsz; simp only [Wh.dep, Wh.size]; omega
  | .pair _ a b => by have := a.dsz; have := b.dsz; simp only [Wh.dep, Wh.size]; omega
theorem sum_join (ws : List Str) (h : ws ≠ []) : (ws.map fun y => y.length).sum + ws.length * (" " : Str).length = (PySem.Str.join " " ws).length + 1 := by
  rw [len_join, if_neg h]
  rfl
theorem strsOf_wl (ws : List Str) : strsOf (ws.map D.str) = some ws := by
  induction ws with
  | nil => rfl
  | cons x ws ih =>
    show (strsOf (ws.map D.str)).map _ = _
    rw [ih]
    rfl
theorem join_wl (w : Wh) (ok : w.Ok) (hs : w.size ≤ 100) : P.ev .join [.str " ", wl w.words] = some (.str w.text) := by
  have h := w.tlen ok
  rw [wl, v_join " " true _ (strsOf_wl _)]
  · rfl
  · rw [sum_join _ w.words_ne]
    show w.text.length + 1 ≤ sLine
    simp only [sLine]; omega
theorem str_num {u : Int} {m : Nat} (hm : u = m) (h : m < 1000) : P.ev .str_ [.int u] = some (.str (numS m)) := by
  show (if u.natAbs.log2 < 1920 then some (D.str (Str.ofString (toString u))) else none) = _
  rw [hm]
  have : (m : Int).natAbs.log2 < 1920 := by
    show m.log2 < 1920
    by_cases z : m = 0
    · rw [z]; decide
    · have := (Nat.log2_lt z (k := 10)).mpr (by omega)
      omega
  rw [if_pos this]
  rfl
def nfl (xs : List Str) : D := .nd .lst false (xs.map .str)
/-- read -/
theorem read_ev (w : Wh) (ok : w.Ok) (hs : w.size ≤ 9) (n : Nat) (hn : w.dep + 4 ≤ n) : evF G fns (n + 1) 8 [.str w.text] = some (w.fd, [.str w.text]) := by
  obtain ⟨n, rfl⟩ : ∃ m, n = m + 1 := ⟨n - 1, by omega⟩
  obtain ⟨v, hv⟩ : ∃ v : Int, v = w.words.length := ⟨_, rfl⟩
  have h1 := whom_at_ev w ok n (by omega) w.words 0 v 0 rfl (fun t x e => by simpa using e) hs (by omega)
  have hl := w.tlen ok
  have h2 : P.ev .split [.str w.text, .str " "] = some (wl w.words) := by
    show (if ((" " : Str).length == 0) = false ∧ w.text.length + 2 ≤ sLine then some (D.ol ((PySem.Txt.split w.text " ").map D.str)) else none) = _
    rw [if_pos ⟨by decide +kernel, by simp only [sLine]; omega⟩]
    unfold Wh.text
    rw [split_text w.words_ne (w.noB ok)]
    rfl
  have h3 := len_wl w.words
  rw [← hv] at h3
  have f1 := w.fr_fd
  rw [evF_at (fn := f_read_whom) rfl rfl]
  generalize wl w.words = W at *
  generalize w.text = z at *
  generalize w.fd = B at *
  simp [f_read_whom, startE, sms_nil, sms_cons, sm_asg, sm_sub, sm_expr, sm_iff, sm_for, sm_whil, sm_ret, sm_retn, sm_brk, sm_pass, ex_con, ex_glo, ex_kix, ex_dlit, ex_var, ex_vz, ex_pk, ex_mv, ex_cs, ex_prim, ex_ix, ex_tup, ex_lst, ex_nott, ex_ands, ex_ors, ex_ite, ex_chain, ex_call, ex_fld, ex_meth, ex_new, sm_sfld, sm_nev, ex_mut, ex_lc, exs_nil, exs_cons, it_seq, it_enum, enumT, nmbr, itemsT, it_rng1, it_rng2, gt, gets, R.get, Cn.d, bool1, tms, tm1, bindTg, endDs, lentOk, back, mutR, wrR, putR, M.ev, wipeE, setP, asSeq, asTup, v_isi, D.isTy, h1, h2, h3, v_nei, f1]
/-! ### drawn names -/
theorem ix_strM {z : Str} {m : Int} (h0 : 0 ≤ m) (h1 : m < z.length) (hz : z.length ≤ 1000) : ∃ c ∈ z.cps.toList, ∀ (i : Nat) (e : Env), gt e i = some (.str z) → ixR e (.sl i) (.int m) = some (.tm (.str ⟨#[c]⟩)) := by
  have hl : z.cps.toList.length = z.length := by simp [PySem.Str.length]
  have hj : m.toNat < z.cps.toList.length := by omega
  refine ⟨z.cps.toList[m.toNat], List.getElem_mem hj, fun i e he => ?_⟩
  have h2 : z.length ≤ sLine := by simp only [sLine]; omega
  have h3 : ixP z.cps.toList.length m = some m.toNat := ixP_int h0 (by omega)
  simp only [ixR, R.get, he, h2, if_true, h3, List.getElem?_eq_getElem hj]
def sgD (c : Nat) : D := .str ⟨#[c]⟩
def mkS (cs : List Nat) : Str := ⟨cs.toArray⟩
theorem mkS_len (cs : List Nat) : (mkS cs).length = cs.length := by simp [mkS, PySem.Str.length]
theorem sgD_fz (cs : List Nat) : fzs (cs.map sgD) = true := by
  induction cs with
  | nil => rfl
  | cons c cs ih => simp [sgD, ih]
theorem strsOf_sg (cs : List Nat) : strsOf (cs.map sgD) = some (cs.map fun c => (⟨#[c]⟩ : Str)) := by
  induction cs with
  | nil => rfl
  | cons c cs ih =>
    show (strsOf (cs.map sgD)).map _ = _
    rw [ih]
    rfl
theorem nil_cat (a : Str) : ("" : Str) ++ a = a := by
  show (⟨#[] ++ a.cps⟩ : Str) = a
  simp
theorem join_sg : ∀ cs : List Nat, PySem.Str.join "" (cs.map fun c => (⟨#[c]⟩ : Str)) = mkS cs
  | [] => rfl
  | [c] => rfl
  | c :: d :: r => by
    rw [List.map_cons, join_cons _ _ (by simp), join_sg (d :: r), cat_assoc, nil_cat]
    show (⟨#[c] ++ (d :: r).toArray⟩ : Str) = ⟨(c :: d :: r).toArray⟩
    simp
theorem sum_ones (cs : List Nat) : ((cs.map fun c => (⟨#[c]⟩ : Str)).map fun y => y.length).sum = cs.length := by
  induction cs with
  | nil => rfl
  | cons c cs ih =>
    rw [List.map_cons, List.map_cons, List.sum_cons, ih]
    show 1 + cs.length = cs.length + 1
    omega
theorem joinE (o : Bool) (cs : List Nat) (h : cs.length ≤ 1000) : P.ev .join [.str "", .nd .lst o (cs.map sgD)] = some (.str (mkS cs)) := by
  rw [v_join "" o _ (strsOf_sg cs), join_sg]
  rw [sum_ones, show ("" : Str).length = 0 by decide +kernel]
  simp only [sLine]; omega
theorem slTo (o : Bool) (cs : List Nat) (i : Int) (n : Nat) (hi : i = n) : P.ev (.sl false true) [.nd .lst o (cs.map sgD), .int i] = some (.nd .lst true ((cs.take n).map sgD)) := by
  rw [v_slHl, if_pos (sgD_fz cs), cutP_map, hi, cut_to]
theorem slFrom (o : Bool) (cs : List Nat) (i : Int) (n : Nat) (hi : i = n) : P.ev (.sl true false) [.nd .lst o (cs.map sgD), .int i] = some (.nd .lst true ((cs.drop n).map sgD)) := by
  rw [v_slLl, if_pos (sgD_fz cs), cutP_map, hi, cut_from]
theorem isN_mk {cs : List Nat} (h : ∀ c ∈ cs, c ∈ letters.cps.toList) (h0 : 1 ≤ cs.length) (h1 : cs.length ≤ 8) : isN (mkS cs) = true := by
  have hs : sgs (mkS cs) = cs.map sgD := by simp [sgs, mkS, sgD]
  simp only [isN, Bool.and_eq_true, decide_eq_true_eq, mkS_len, hs]
  refine ⟨List.all_eq_true.mpr fun d hd => ?_, by omega, by omega⟩
  obtain ⟨c, hc, rfl⟩ := List.mem_map.mp hd
  rw [sgD, inS_c]
  exact decide_eq_true (h c hc)
theorem sgs_of {ds : List D} (h : ∀ d ∈ ds, ∃ c ∈ letters.cps.toList, d = sgD c) : ∃ cs : List Nat, ds = cs.map sgD ∧ ∀ c ∈ cs, c ∈ letters.cps.toList := by
  induction ds with
  | nil => exact ⟨[], rfl, by simp⟩
  | cons d ds ih =>
    obtain ⟨cs, rfl, hcs⟩ := ih fun x hx => h x (List.mem_cons_of_mem _ hx)
    obtain ⟨c, hc, rfl⟩ := h d List.mem_cons_self
    exact ⟨c :: cs, rfl, fun x hx => (List.mem_cons.mp hx).elim (fun e => e ▸ hc) (hcs x)⟩
theorem let_len : letters.length = 26 := by decide +kernel
def nmOf (cs : List Nat) (n c : Nat) : Str := mkS (cs.take n ++ c :: cs.drop (n + 1))
def ltr (i : Nat) : Nat := letters.cps.toList.getD i 0
theorem ltr_all : (List.range 26).all (fun i => ltr i == 97 + i) = true := by kernel_rfl
theorem ltr_eq {i : Nat} (h : i < 26) : ltr i = 97 + i := eq_of_beq (List.all_eq_true.mp ltr_all i (List.mem_range.mpr h))
theorem nmOf_inj {cs : List Nat} {n c c' : Nat} (h : nmOf cs n c = nmOf cs n c') : c = c' := by
  unfold nmOf mkS at h
  have h1 := congrArg (fun z : Str => z.cps.toList) h
  simp only [List.append_cancel_left_eq, List.cons.injEq, and_true] at h1
  exact h1
theorem ix_let {m : Int} (h0 : 0 ≤ m) (h1 : m < 26) : ltr m.toNat ∈ letters.cps.toList ∧ ∀ (i : Nat) (e : Env), gt e i = some (.str letters) → ixR e (.sl i) (.int m) = some (.tm (.str ⟨#[ltr m.toNat]⟩)) := by
  have ll := let_len
  have hl : letters.cps.toList.length = letters.length := by simp [PySem.Str.length]
  have hj : m.toNat < letters.cps.toList.length := by omega
  have hg : letters.cps.toList[m.toNat] = ltr m.toNat := by unfold ltr; rw [List.getD_eq_getElem?_getD, List.getElem?_eq_getElem hj]; rfl
  refine ⟨by rw [← hg]; exact List.getElem_mem hj, fun i e he => ?_⟩
  have h2 : letters.length ≤ sLine := by simp only [sLine]; omega
  have h3 : ixP letters.cps.toList.length m = some m.toNat := ixP_int h0 (by omega)
  simp only [ixR, R.get, he, h2, if_true, h3, List.getElem?_eq_getElem hj, hg]
theorem names_b (C : Cl) (st mn sz bs : D) (o : Bool) (cs : List Nat) (at_ tn z : Int) (n : Nat) (ha : at_ = n) (hn : n < cs.length) (h8 : cs.length ≤ 8) (hcs : ∀ c ∈ cs, c ∈ letters.cps.toList) (xs : List Str) (hx : xs.length < 1000) (y6 y9 : Option D) :
    ∃ (y6' y9' : Option D), isN (nmOf cs n (ltr ((tn + 5 * z) % 26).toNat)) = true ∧ forB G C (.nm 6) f_law_names_b0 (.int z) [some st, some mn, some (.str letters), some sz, some (.int at_), some (.nd .lst o (cs.map sgD)), y6, some (.int tn), some (wl xs), y9] =
      some (.nx [some st, some mn, some (.str letters), some sz, some (.int at_), some (.nd .lst o (cs.map sgD)), y6', some (.int tn), some (wl (xs ++ [nmOf cs n (ltr ((tn + 5 * z) % 26).toNat)])), y9']) := by
  obtain ⟨hc, hix⟩ := ix_let (m := (tn + 5 * z) % 26) (Int.emod_nonneg _ (by omega)) (Int.emod_lt_of_pos _ (by omega))
  generalize ltr ((tn + 5 * z) % 26).toNat = c at *
  have h1 := slTo o cs at_ n ha
  have h2 := slFrom o cs (at_ + 1) (n + 1) (by omega)
  have h3 := joinE true (cs.take n) (by rw [List.length_take]; omega)
  have h4 := joinE true (cs.drop (n + 1)) (by rw [List.length_drop]; omega)
  have l1 : (mkS (cs.take n)).length = n := by rw [mkS_len, List.length_take]; omega
  have l2 : (mkS (cs.drop (n + 1))).length = cs.length - (n + 1) := by rw [mkS_len, List.length_drop]
  have l3 : (⟨#[c]⟩ : Str).length = 1 := rfl
  have ex : mkS (cs.take n) ++ (⟨#[c]⟩ : Str) ++ mkS (cs.drop (n + 1)) = mkS (cs.take n ++ c :: cs.drop (n + 1)) := by
    show (⟨((cs.take n).toArray ++ #[c]) ++ (cs.drop (n + 1)).toArray⟩ : Str) = ⟨(cs.take n ++ c :: cs.drop (n + 1)).toArray⟩
    simp
  have ex2 : nmOf cs n c = mkS (cs.take n) ++ (⟨#[c]⟩ : Str) ++ mkS (cs.drop (n + 1)) := ex.symm
  rw [ex2]
  refine ⟨some (.int z), some (.str ⟨#[c]⟩), ?_, ?_⟩
  · rw [ex]
    refine isN_mk (fun x hx => ?_) (by simp; omega) (by simp; omega)
    rcases List.mem_append.mp hx with h | h
    · exact hcs x (List.mem_of_mem_take h)
    · rcases List.mem_cons.mp h with rfl | h
      · exact hc
      · exact hcs x (List.mem_of_mem_drop h)
  · have g1 : (mkS (cs.take n)).length + (⟨#[c]⟩ : Str).length ≤ 16777216 := by omega
    have g2 : (mkS (cs.take n) ++ (⟨#[c]⟩ : Str)).length + (mkS (cs.drop (n + 1))).length ≤ 16777216 := by rw [cat_len]; omega
    have g3 : wl (xs ++ [mkS (cs.take n) ++ (⟨#[c]⟩ : Str) ++ mkS (cs.drop (n + 1))]) = .nd .lst true (xs.map .str ++ [.str (mkS (cs.take n) ++ (⟨#[c]⟩ : Str) ++ mkS (cs.drop (n + 1)))]) := by simp [wl]
    have g4 : wl xs = .nd .lst true (xs.map .str) := rfl
    have g5 : (xs.map D.str).length < 16777216 := by rw [List.length_map]; omega
    rw [g3, g4]
    generalize mkS (cs.take n) = A at *
    generalize mkS (cs.drop (n + 1)) = B at *
    generalize (cs.take n).map sgD = TA at *
    generalize (cs.drop (n + 1)).map sgD = TB at *
    generalize cs.map sgD = CS at *
    generalize xs.map D.str = XS at *
    simp [forB, f_law_names_b0, sms_nil, sms_cons, sm_asg, sm_sub, sm_expr, sm_iff, sm_for, sm_whil, sm_ret, sm_retn, sm_brk, sm_pass, ex_con, ex_glo, ex_kix, ex_dlit, ex_var, ex_vz, ex_pk, ex_mv, ex_cs, ex_prim, ex_ix, ex_tup, ex_lst, ex_nott, ex_ands, ex_ors, ex_ite, ex_chain, ex_call, ex_fld, ex_meth, ex_new, sm_sfld, sm_nev, ex_mut, ex_lc, exs_nil, exs_cons, it_seq, it_enum, enumT, nmbr, itemsT, it_rng1, it_rng2, gt, gets, R.get, Cn.d, bool1, tms, tm1, bindTg, endDs, lentOk, back, mutR, wrR, putR, M.ev, wipeE, setP, asSeq, asTup, v_add, v_mul, v_mod, v_adds, hix, h1, h2, h3, h4, g1, g2, g5, sLine]
def nb : Sms := f_law_names.body
def nb2 : Sms := tl (tl (tl nb))
theorem names_ev (k : Nat) (ns : List Int) (hl : ns.length ≤ 63) (a many : Int) (h0 : 0 ≤ a) (h1 : a < 90000) (m : Nat) (hm : many = m) (hm2 : m < 1000) :
    ∃ (xs : List Str) (a2 : Int), xs.length = m ∧ (∀ x ∈ xs, isN x = true) ∧ (m ≤ 5 → xs.Nodup) ∧ a ≤ a2 ∧ a2 ≤ a + 12 ∧ evF G fns (k + 2) 10 [stD ns a, .int many] = some (nfl xs, [stD ns a2, .int many]) := by
  obtain ⟨u, u0, u1, hu⟩ := take_ev k ns hl a 8 h0 (by omega) (by omega)
  obtain ⟨v, v0, v1, hv⟩ := take_ev k ns hl (a + 1) (1 + u) (by omega) (by omega) (by omega)
  obtain ⟨n, hn⟩ : ∃ n : Nat, v = n := ⟨v.toNat, by omega⟩
  obtain ⟨s, hs⟩ : ∃ s : Nat, 1 + u = s := ⟨(1 + u).toNat, by omega⟩
  have ll := let_len
  -- the base
  obtain ⟨ds, e', hlc, ⟨he⟩, hlen, hz⟩ := lcL_ix (f := lcB G (evF G fns (k + 1)) (.nm 6) f_law_names_c0 f_law_names_l0) (i := 0)
    (fun i e => PLift (e = [some (stD ns (a + 1 + 1 + (i : Int))), some (.int many), some (.str letters), some (.int (1 + u)), some (.int v), none, none, none, none, none])  |> Nonempty)
    (fun d => ∃ c ∈ letters.cps.toList, d = sgD c) (xs := (List.range s).map fun (k : Nat) => D.int (k : Int)) (acc := []) (e := [some (stD ns (a + 1 + 1)), some (.int many), some (.str letters), some (.int (1 + u)), some (.int v), none, none, none, none, none])
    ⟨⟨by simp⟩⟩ (by simp [sLine]; omega) (by simp) (fun j x hj e ⟨⟨he⟩⟩ => by
      have hjl := (List.getElem?_eq_some_iff.mp hj).1
      simp only [List.length_map, List.length_range] at hjl
      subst he
      obtain ⟨b, hb⟩ : ∃ b : Int, a + 1 + 1 + ((0 + j : Nat) : Int) = b := ⟨_, rfl⟩
      have hb2 : a + 1 + 1 + ((0 + j + 1 : Nat) : Int) = b + 1 := by omega
      rw [hb, hb2]
      obtain ⟨w, w0, w1, hw⟩ := take_ev k ns hl b 26 (by omega) (by omega) (by omega)
      obtain ⟨c, hc, hix⟩ := ix_strM (z := letters) (m := w) w0 (by rw [ll]; omega) (by rw [ll]; omega)
      refine ⟨sgD c, _, ?_, ⟨⟨rfl⟩⟩, c, hc, rfl⟩
      generalize stD ns (b + 1) = T2 at *
      generalize stD ns b = T1 at *
      simp [lcB, f_law_names_c0, f_law_names_l0, sms_nil, sms_cons, sm_asg, sm_sub, sm_expr, sm_iff, sm_for, sm_whil, sm_ret, sm_retn, sm_brk, sm_pass, ex_con, ex_glo, ex_kix, ex_dlit, ex_var, ex_vz, ex_pk, ex_mv, ex_cs, ex_prim, ex_ix, ex_tup, ex_lst, ex_nott, ex_ands, ex_ors, ex_ite, ex_chain, ex_call, ex_fld, ex_meth, ex_new, sm_sfld, sm_nev, ex_mut, ex_lc, exs_nil, exs_cons, it_seq, it_enum, enumT, nmbr, itemsT, it_rng1, it_rng2, gt, gets, R.get, Cn.d, bool1, tms, tm1, bindTg, endDs, lentOk, back, mutR, wrR, putR, M.ev, wipeE, setP, asSeq, asTup, hw, hix, sgD])
  obtain ⟨he⟩ := he
  subst he
  obtain ⟨cs, rfl, hcs⟩ := sgs_of hz
  have hcl : cs.length = s := by simpa using hlen
  have hlen2 : (0 + ((List.range s).map fun (k : Nat) => D.int (k : Int)).length) = s := by simp
  rw [hlen2] at hlc
  obtain ⟨b, hb⟩ : ∃ b : Int, a + 1 + 1 + (s : Int) = b := ⟨_, rfl⟩
  rw [hb] at hlc
  obtain ⟨tn, t0, t1, ht⟩ := take_ev k ns hl b 26 (by omega) (by omega) (by omega)
  -- the names
  obtain ⟨e3, hf, y6, y9, x2, he3⟩ := forL_ix (f := forB G (evF G fns (k + 1)) (.nm 6) f_law_names_b0) (i := 0)
    (fun i e => ∃ (y6 y9 : Option D), (∀ x ∈ (List.range i).map (fun k : Nat => nmOf cs n (ltr ((tn + 5 * (k : Int)) % 26).toNat)), isN x = true) ∧ e = [some (stD ns (b + 1)), some (.int many), some (.str letters), some (.int (1 + u)), some (.int v), some (.nd .lst true (cs.map sgD)), y6, some (.int tn), some (wl ((List.range i).map (fun k : Nat => nmOf cs n (ltr ((tn + 5 * (k : Int)) % 26).toNat)))), y9])
    (xs := (List.range m).map fun (k : Nat) => D.int (k : Int)) (e := [some (stD ns (b + 1)), some (.int many), some (.str letters), some (.int (1 + u)), some (.int v), some (.nd .lst true (cs.map sgD)), none, some (.int tn), some (wl []), none])
    ⟨none, none, by simp, rfl⟩ (fun j x hj e ⟨y6, y9, x2, he⟩ => by
      have hjl := (List.getElem?_eq_some_iff.mp hj).1
      simp only [List.length_map, List.length_range] at hjl
      have hx : x = D.int (j : Int) := by
        rw [List.getElem?_map, List.getElem?_range hjl] at hj
        exact (Option.some.inj hj).symm
      subst he
      rw [show 0 + j = j by omega] at *
      have hr : (List.range (j + 1)).map (fun k : Nat => nmOf cs n (ltr ((tn + 5 * (k : Int)) % 26).toNat)) = (List.range j).map (fun k : Nat => nmOf cs n (ltr ((tn + 5 * (k : Int)) % 26).toNat)) ++ [nmOf cs n (ltr ((tn + 5 * (j : Int)) % 26).toNat)] := by rw [List.range_succ, List.map_append]; rfl
      rw [hr]
      have hxl : ((List.range j).map (fun k : Nat => nmOf cs n (ltr ((tn + 5 * (k : Int)) % 26).toNat))).length < 1000 := by simp; omega
      generalize (List.range j).map (fun k : Nat => nmOf cs n (ltr ((tn + 5 * (k : Int)) % 26).toNat)) = xs at *
      obtain ⟨z, hz⟩ : ∃ z : Int, (j : Int) = z := ⟨_, rfl⟩
      rw [hx, hz]
      obtain ⟨y6', y9', g1, g2⟩ := names_b (evF G fns (k + 1)) (stD ns (b + 1)) (.int many) (.int (1 + u)) (.int 0) true cs v tn z n hn (by omega) (by omega) hcs xs hxl y6 y9
      exact ⟨_, g2, y6', y9', fun y hy => (List.mem_append.mp hy).elim (x2 y) fun q => by rw [List.mem_singleton.mp q]; exact g1, rfl⟩)
  subst he3
  have hnd : m ≤ 5 → ((List.range m).map (fun k : Nat => nmOf cs n (ltr ((tn + 5 * (k : Int)) % 26).toNat))).Nodup := fun hm5 => by
    rw [List.Nodup, List.pairwise_map]
    refine List.Pairwise.imp_of_mem (R := fun a b : Nat => a ≠ b) (fun {p q} hp hq hne he => ?_) List.nodup_range
    rw [List.mem_range] at hp hq
    have h2 := nmOf_inj he
    rw [ltr_eq (by omega), ltr_eq (by omega)] at h2
    omega
  have hxl : ((List.range m).map (fun k : Nat => nmOf cs n (ltr ((tn + 5 * (k : Int)) % 26).toNat))).length = m := by simp
  simp only [List.length_map, List.length_range, Nat.zero_add] at x2 hf
  generalize (List.range m).map (fun k : Nat => nmOf cs n (ltr ((tn + 5 * (k : Int)) % 26).toNat)) = xs at *
  refine ⟨xs, b + 1, hxl, x2, hnd, by omega, by omega, ?_⟩
  have hr1 : rngL 0 (1 + u) = some ((List.range s).map fun (k : Nat) => D.int (k : Int)) := by rw [hs]; exact rngL_nat s (by omega)
  have hr2 : rngL 0 many = some ((List.range m).map fun (k : Nat) => D.int (k : Int)) := by rw [hm]; exact rngL_nat m (by omega)
  have fw : (wl xs).fr = nfl xs := by
    have : ∀ l : List Str, frs (l.map D.str) = l.map D.str := fun l => by
      induction l with
      | nil => rfl
      | cons x l ih => simp [ih]
    simp [wl, nfl, this]
  have w0 : wl [] = .nd .lst true [] := rfl
  have hlet : (D.str "abcdefghijklmnopqrstuvwxyz") = .str letters := rfl
  rw [w0] at hf
  rw [evF_at (fn := f_law_names) rfl rfl]
  generalize (List.range s).map (fun (k : Nat) => D.int (k : Int)) = R1 at *
  generalize (List.range m).map (fun (k : Nat) => D.int (k : Int)) = R2 at *
  generalize stD ns a = T0 at *
  generalize stD ns (a + 1) = T1 at *
  generalize stD ns (a + 1 + 1) = T2 at *
  generalize stD ns b = T3 at *
  generalize stD ns (b + 1) = T4 at *
  generalize wl xs = W at *
  generalize cs.map sgD = CS at *
  simp [f_law_names, startE, sms_nil, sms_cons, sm_asg, sm_sub, sm_expr, sm_iff, sm_for, sm_whil, sm_ret, sm_retn, sm_brk, sm_pass, ex_con, ex_glo, ex_kix, ex_dlit, ex_var, ex_vz, ex_pk, ex_mv, ex_cs, ex_prim, ex_ix, ex_tup, ex_lst, ex_nott, ex_ands, ex_ors, ex_ite, ex_chain, ex_call, ex_fld, ex_meth, ex_new, sm_sfld, sm_nev, ex_mut, ex_lc, exs_nil, exs_cons, it_seq, it_enum, enumT, nmbr, itemsT, it_rng1, it_rng2, gt, gets, R.get, Cn.d, bool1, tms, tm1, bindTg, endDs, lentOk, back, mutR, wrR, putR, M.ev, wipeE, setP, asSeq, asTup, v_add, hlet, hu, hv, hr1, hlc, ht, hr2, hf, fw, sLine]
theorem ix_tm {ws : List Str} {z : Int} (h0 : 0 ≤ z) (h1 : z < ws.length) : ∃ x ∈ ws, ∀ (e : Env) (o : Bool), ixR e (.tm (.nd .lst o (ws.map .str))) (.int z) = some (.tm (.str x)) := by
  have hj : z.toNat < ws.length := by omega
  refine ⟨ws[z.toNat], List.getElem_mem hj, fun e o => ?_⟩
  have h2 : ixP (ws.map D.str).length z = some z.toNat := ixP_int h0 (by simpa using h1)
  have h3 : (ws.map D.str)[z.toNat]? = some (.str ws[z.toNat]) := by rw [List.getElem?_map, List.getElem?_eq_getElem hj]; rfl
  simp only [ixR, R.get, asSeq, h2, h3]
  rfl
theorem more_names : isN "all" = true ∧ isN "do" = true ∧ isN "not" = true ∧ isN "mark" = true := by decide +kernel
theorem leaf_ev (k : Nat) (ns : List Int) (hl : ns.length ≤ 63) (a : Int) (h0 : 0 ≤ a) (h1 : a < 90000) (xs : List Str) (hx : xs.length < 1000) (hN : ∀ x ∈ xs, isN x = true) :
    ∃ (w : Wh) (a2 : Int), w.Ok ∧ w.size = 1 ∧ a ≤ a2 ∧ a2 ≤ a + 6 ∧ evF G fns (k + 2) 11 [stD ns a, nfl xs] = some (wl w.words, [stD ns a2, nfl xs]) := by
  obtain ⟨u, u0, u1, hu⟩ := take_ev k ns hl a 7 h0 (by omega) (by omega)
  have hw : ∀ l : List Str, wl l = .nd .lst true (l.map .str) := fun l => rfl
  by_cases c1 : u < 3
  · obtain ⟨z, z0, z1, hz⟩ := take_ev k ns hl (a + 1) (xs.length + 4) (by omega) (by omega) (by omega)
    obtain ⟨x, hxm, hix⟩ := ix_tm (ws := xs ++ (["all", "do", "not", "mark"] : List Str)) z0 (by simp; omega)
    have ok : isN x = true := by
      obtain ⟨m1, m2, m3, m4⟩ := more_names
      rcases List.mem_append.mp hxm with h | h
      · exact hN x h
      · simp only [List.mem_cons, List.not_mem_nil, or_false] at h
        rcases h with rfl | rfl | rfl | rfl
        · exact m1
        · exact m2
        · exact m3
        · exact m4
    refine ⟨.mark x, a + 1 + 1, ok, rfl, by omega, by omega, ?_⟩
    have had : P.ev .add [nfl xs, .nd .lst true [.str "all", .str "do", .str "not", .str "mark"]] = some (.nd .lst true ((xs ++ (["all", "do", "not", "mark"] : List Str)).map .str)) := by
      rw [nfl, v_addl, if_pos]
      · simp
      · simp [wl_fz, sLine]; omega
    have hle : P.ev .len [nfl xs] = some (.int xs.length) := by rw [nfl, v_lenl, List.length_map]
    have fr : (nfl xs).fz = true := by simp [nfl, wl_fz]
    have hws : wl (Wh.mark x).words = .nd .lst true [.str "mark", .str x] := rfl
    rw [hws, evF_at (fn := f_law_leaf) rfl rfl]
    generalize (xs ++ (["all", "do", "not", "mark"] : List Str)).map D.str = XS at *
    generalize nfl xs = N at *
    generalize stD ns a = T0 at *
    generalize stD ns (a + 1) = T1 at *
    generalize stD ns (a + 1 + 1) = T2 at *
    generalize (xs.length : Int) = XL at *
    simp [f_law_leaf, startE, sms_nil, sms_cons, sm_asg, sm_sub, sm_expr, sm_iff, sm_for, sm_whil, sm_ret, sm_retn, sm_brk, sm_pass, ex_con, ex_glo, ex_kix, ex_dlit, ex_var, ex_vz, ex_pk, ex_mv, ex_cs, ex_prim, ex_ix, ex_tup, ex_lst, ex_nott, ex_ands, ex_ors, ex_ite, ex_chain, ex_call, ex_fld, ex_meth, ex_new, sm_sfld, sm_nev, ex_mut, ex_lc, exs_nil, exs_cons, it_seq, it_enum, enumT, nmbr, itemsT, it_rng1, it_rng2, gt, gets, R.get, Cn.d, bool1, tms, tm1, bindTg, endDs, lentOk, back, mutR, wrR, putR, M.ev, wipeE, setP, asSeq, asTup, v_add, v_lt, hu, c1, had, hle, hz, hix, sLine]
  · by_cases c2 : u < 5
    · obtain ⟨p, p0, p1, hp⟩ := take_ev k ns hl (a + 1) 1000 (by omega) (by omega) (by omega)
      obtain ⟨q, q0, q1, hq⟩ := take_ev k ns hl (a + 1 + 1) 6 (by omega) (by omega) (by omega)
      obtain ⟨z, z0, z1, hz⟩ := take_ev k ns hl (a + 1 + 1 + 1) 2 (by omega) (by omega) (by omega)
      obtain ⟨m, mlt, v, hvm, hix⟩ : ∃ m : Nat, m < 1000 ∧ ∃ v : Int, v = m ∧ ∀ e : Env, ixR e (.tm (.nd .lst true [.int p, .int q])) (.int z) = some (.tm (.int v)) := by
        have : z = 0 ∨ z = 1 := by omega
        rcases this with rfl | rfl
        · exact ⟨p.toNat, by omega, p, by omega, fun e => rfl⟩
        · exact ⟨q.toNat, by omega, q, by omega, fun e => rfl⟩
      refine ⟨.force m, a + 1 + 1 + 1 + 1, mlt, rfl, by omega, by omega, ?_⟩
      have hs := str_num hvm mlt
      have hws : wl (Wh.force m).words = .nd .lst true [.str "force", .str (numS m)] := rfl
      rw [hws, evF_at (fn := f_law_leaf) rfl rfl]
      generalize numS m = NM at *
      generalize nfl xs = N at *
      generalize stD ns a = T0 at *
      generalize stD ns (a + 1) = T1 at *
      generalize stD ns (a + 1 + 1) = T2 at *
      generalize stD ns (a + 1 + 1 + 1) = T3 at *
      generalize stD ns (a + 1 + 1 + 1 + 1) = T4 at *
      simp [f_law_leaf, startE, sms_nil, sms_cons, sm_asg, sm_sub, sm_expr, sm_iff, sm_for, sm_whil, sm_ret, sm_retn, sm_brk, sm_pass, ex_con, ex_glo, ex_kix, ex_dlit, ex_var, ex_vz, ex_pk, ex_mv, ex_cs, ex_prim, ex_ix, ex_tup, ex_lst, ex_nott, ex_ands, ex_ors, ex_ite, ex_chain, ex_call, ex_fld, ex_meth, ex_new, sm_sfld, sm_nev, ex_mut, ex_lc, exs_nil, exs_cons, it_seq, it_enum, enumT, nmbr, itemsT, it_rng1, it_rng2, gt, gets, R.get, Cn.d, bool1, tms, tm1, bindTg, endDs, lentOk, back, mutR, wrR, putR, M.ev, wipeE, setP, asSeq, asTup, v_add, v_lt, hu, c1, c2, hp, hq, hz, hix, hs, sLine]
    · obtain ⟨z, z0, z1, hz⟩ := take_ev k ns hl (a + 1) 3 (by omega) (by omega) (by omega)
      obtain ⟨w, wok, wsz, x, hxw, hix⟩ : ∃ w : Wh, w.Ok ∧ w.size = 1 ∧ ∃ x : Str, w.words = [x] ∧ ∀ e : Env, ixR e (.tm (.nd .lst true [.str "all", .str "self", .str "mine"])) (.int z) = some (.tm (.str x)) := by
        have : z = 0 ∨ z = 1 ∨ z = 2 := by omega
        rcases this with rfl | rfl | rfl
        · exact ⟨.all, trivial, rfl, _, rfl, fun e => rfl⟩
        · exact ⟨.self, trivial, rfl, _, rfl, fun e => rfl⟩
        · exact ⟨.mine, trivial, rfl, _, rfl, fun e => rfl⟩
      refine ⟨w, a + 1 + 1, wok, wsz, by omega, by omega, ?_⟩
      have hws : wl w.words = .nd .lst true [.str x] := by rw [hxw]; rfl
      rw [hws, evF_at (fn := f_law_leaf) rfl rfl]
      generalize nfl xs = N at *
      generalize stD ns a = T0 at *
      generalize stD ns (a + 1) = T1 at *
      generalize stD ns (a + 1 + 1) = T2 at *
      simp [f_law_leaf, startE, sms_nil, sms_cons, sm_asg, sm_sub, sm_expr, sm_iff, sm_for, sm_whil, sm_ret, sm_retn, sm_brk, sm_pass, ex_con, ex_glo, ex_kix, ex_dlit, ex_var, ex_vz, ex_pk, ex_mv, ex_cs, ex_prim, ex_ix, ex_tup, ex_lst, ex_nott, ex_ands, ex_ors, ex_ite, ex_chain, ex_call, ex_fld, ex_meth, ex_new, sm_sfld, sm_nev, ex_mut, ex_lc, exs_nil, exs_cons, it_seq, it_enum, enumT, nmbr, itemsT, it_rng1, it_rng2, gt, gets, R.get, Cn.d, bool1, tms, tm1, bindTg, endDs, lentOk, back, mutR, wrR, putR, M.ev, wipeE, setP, asSeq, asTup, v_add, v_lt, hu, c1, c2, hz, hix, sLine]
theorem whom_ev (ns : List Int) (hl : ns.length ≤ 63) (xs : List Str) (hx : xs.length < 1000) (hN : ∀ x ∈ xs, isN x = true) : ∀ (n : Nat), 1 ≤ n → n ≤ 100 → ∀ (k : Nat) (a left : Int), n ≤ k → left = n → 0 ≤ a → a + 10 * n < 60000 →
    ∃ (w : Wh) (a2 s : Int), w.Ok ∧ w.size ≤ n ∧ s = w.size ∧ a ≤ a2 ∧ a2 ≤ a + 10 * s ∧ evF G fns (k + 2) 12 [stD ns a, nfl xs, .int left] = some (.tup [wl w.words, .int s], [stD ns a2, nfl xs, .int left]) := by
  intro n
  induction n using Nat.strongRecOn with
  | _ n ih =>
  intro hn1 hn2 k a left hk hleft h0 h1
  obtain ⟨k, rfl⟩ : ∃ m, k = m + 1 := ⟨k - 1, by omega⟩
  obtain ⟨u, u0, u1, hu⟩ := take_ev (k + 1) ns hl a 8 h0 (by omega) (by omega)
  have fw : (nfl xs).fz = true := by simp [nfl, wl_fz]
  by_cases c1 : 5 < u ∧ 1 < left
  · obtain ⟨w, a2, s, g1, g2, g3, g4, g5, g6⟩ := ih (n - 1) (by omega) (by omega) (by omega) k (a + 1) (left - 1) (by omega) (by omega) (by omega) (by omega)
    obtain ⟨b1, b2⟩ := c1
    have hwl := w.wlen
    have had := add_wl true true (["not"] : List Str) w.words (by simp; omega)
    simp only [List.map_cons, List.map_nil] at had
    refine ⟨.not w, a2, s + 1, g1, by simp only [Wh.size]; omega, by simp only [Wh.size]; omega, by omega, by omega, ?_⟩
    have hws : (Wh.not w).words = (["not"] : List Str) ++ w.words := rfl
    have hw : wl w.words = .nd .lst true (w.words.map .str) := rfl
    rw [hws, evF_at (fn := f_law_whom) rfl rfl]
    rw [hw] at g6
    generalize wl ((["not"] : List Str) ++ w.words) = W2 at *
    generalize w.words.map D.str = W1 at *
    generalize nfl xs = N at *
    generalize stD ns a = T0 at *
    generalize stD ns (a + 1) = T1 at *
    generalize stD ns a2 = T2 at *
    simp [f_law_whom, startE, sms_nil, sms_cons, sm_asg, sm_sub, sm_expr, sm_iff, sm_for, sm_whil, sm_ret, sm_retn, sm_brk, sm_pass, ex_con, ex_glo, ex_kix, ex_dlit, ex_var, ex_vz, ex_pk, ex_mv, ex_cs, ex_prim, ex_ix, ex_tup, ex_lst, ex_nott, ex_ands, ex_ors, ex_ite, ex_chain, ex_call, ex_fld, ex_meth, ex_new, sm_sfld, sm_nev, ex_mut, ex_lc, exs_nil, exs_cons, it_seq, it_enum, enumT, nmbr, itemsT, it_rng1, it_rng2, gt, gets, R.get, Cn.d, bool1, tms, tm1, bindTg, endDs, lentOk, back, mutR, wrR, putR, M.ev, wipeE, setP, asSeq, asTup, v_add, v_sub, v_gt, hu, b1, b2, g6, had, sLine]
  · by_cases c2 : 1 < u ∧ 2 < left
    · obtain ⟨w, a2, s, g1, g2, g3, g4, g5, g6⟩ := ih (n - 2) (by omega) (by omega) (by omega) k (a + 1) (left - 2) (by omega) (by omega) (by omega) (by omega)
      have hp := w.size_pos
      obtain ⟨v, a3, t, e1, e2, e3, e4, e5, e6⟩ := ih (n - 1 - w.size) (by omega) (by omega) (by omega) k a2 (left - 1 - s) (by omega) (by omega) (by omega) (by omega)
      obtain ⟨b1, b2⟩ := c2
      have b3 : (decide (5 < u) && decide (1 < left)) = false := by
        rw [← Bool.not_eq_true, Bool.and_eq_true, decide_eq_true_eq, decide_eq_true_eq]; exact c1
      have hwl := w.wlen
      have hvl := v.wlen
      obtain ⟨bw, hix⟩ : ∃ bw : Bool, ∀ e : Env, ixR e (.tm (.nd .lst true [.str "both", .str "any"])) (.int (u % 2)) = some (.tm (.str (pw bw))) := by
        have : u % 2 = 0 ∨ u % 2 = 1 := by omega
        rcases this with h | h
        · exact ⟨true, fun e => by rw [h]; rfl⟩
        · exact ⟨false, fun e => by rw [h]; rfl⟩
      have had := add_wl true true [pw bw] w.words (by simp; omega)
      simp only [List.map_cons, List.map_nil] at had
      have had2 := add_wl true true ([pw bw] ++ w.words) v.words (by simp; omega)
      refine ⟨.pair bw w v, a3, 1 + s + t, ⟨g1, e1⟩, by simp only [Wh.size]; omega, by simp only [Wh.size]; omega, by omega, by omega, ?_⟩
      have hws : (Wh.pair bw w v).words = [pw bw] ++ w.words ++ v.words := by simp [Wh.words]
      have hw : wl w.words = .nd .lst true (w.words.map .str) := rfl
      have hw2 : wl ([pw bw] ++ w.words) = .nd .lst true (([pw bw] ++ w.words).map .str) := rfl
      have hw3 : wl v.words = .nd .lst true (v.words.map .str) := rfl
      rw [hws, evF_at (fn := f_law_whom) rfl rfl]
      rw [hw] at g6
      rw [hw2] at had
      rw [hw3] at e6
      generalize wl ([pw bw] ++ w.words ++ v.words) = W4 at *
      generalize ([pw bw] ++ w.words).map D.str = W2 at *
      generalize w.words.map D.str = W1 at *
      generalize v.words.map D.str = W3 at *
      generalize pw bw = PW at *
      generalize nfl xs = N at *
      generalize stD ns a = T0 at *
      generalize stD ns (a + 1) = T1 at *
      generalize stD ns a2 = T2 at *
      generalize stD ns a3 = T3 at *
      by_cases b5 : 5 < u
      · have b6 : ¬ 1 < left := fun z => c1 ⟨b5, z⟩
        omega
      · simp [f_law_whom, startE, sms_nil, sms_cons, sm_asg, sm_sub, sm_expr, sm_iff, sm_for, sm_whil, sm_ret, sm_retn, sm_brk, sm_pass, ex_con, ex_glo, ex_kix, ex_dlit, ex_var, ex_vz, ex_pk, ex_mv, ex_cs, ex_prim, ex_ix, ex_tup, ex_lst, ex_nott, ex_ands, ex_ors, ex_ite, ex_chain, ex_call, ex_fld, ex_meth, ex_new, sm_sfld, sm_nev, ex_mut, ex_lc, exs_nil, exs_cons, it_seq, it_enum, enumT, nmbr, itemsT, it_rng1, it_rng2, gt, gets, R.get, Cn.d, bool1, tms, tm1, bindTg, endDs, lentOk, back, mutR, wrR, putR, M.ev, wipeE, setP, asSeq, asTup, v_add, v_sub, v_gt, v_mod, hu, b1, b2, b5, g6, e6, had, had2, hix, sLine]
    · obtain ⟨w, a2, g1, g2, g3, g4, g5⟩ := leaf_ev k ns hl (a + 1) (by omega) (by omega) xs hx hN
      refine ⟨w, a2, 1, g1, by omega, by omega, by omega, by omega, ?_⟩
      rw [evF_at (fn := f_law_whom) rfl rfl]
      generalize wl w.words = W at *
      generalize nfl xs = N at *
      generalize stD ns a = T0 at *
      generalize stD ns (a + 1) = T1 at *
      generalize stD ns a2 = T2 at *
      by_cases b5 : 5 < u
      · have b6 : ¬ 1 < left := fun z => c1 ⟨b5, z⟩
        have b7 : ¬ 2 < left := by omega
        by_cases b8 : 1 < u
        · simp [f_law_whom, startE, sms_nil, sms_cons, sm_asg, sm_sub, sm_expr, sm_iff, sm_for, sm_whil, sm_ret, sm_retn, sm_brk, sm_pass, ex_con, ex_glo, ex_kix, ex_dlit, ex_var, ex_vz, ex_pk, ex_mv, ex_cs, ex_prim, ex_ix, ex_tup, ex_lst, ex_nott, ex_ands, ex_ors, ex_ite, ex_chain, ex_call, ex_fld, ex_meth, ex_new, sm_sfld, sm_nev, ex_mut, ex_lc, exs_nil, exs_cons, it_seq, it_enum, enumT, nmbr, itemsT, it_rng1, it_rng2, gt, gets, R.get, Cn.d, bool1, tms, tm1, bindTg, endDs, lentOk, back, mutR, wrR, putR, M.ev, wipeE, setP, asSeq, asTup, v_gt, hu, b5, b6, b7, b8, g5, sLine]
        · omega
      · by_cases b8 : 1 < u
        · have b7 : ¬ 2 < left := fun z => c2 ⟨b8, z⟩
          simp [f_law_whom, startE, sms_nil, sms_cons, sm_asg, sm_sub, sm_expr, sm_iff, sm_for, sm_whil, sm_ret, sm_retn, sm_brk, sm_pass, ex_con, ex_glo, ex_kix, ex_dlit, ex_var, ex_vz, ex_pk, ex_mv, ex_cs, ex_prim, ex_ix, ex_tup, ex_lst, ex_nott, ex_ands, ex_ors, ex_ite, ex_chain, ex_call, ex_fld, ex_meth, ex_new, sm_sfld, sm_nev, ex_mut, ex_lc, exs_nil, exs_cons, it_seq, it_enum, enumT, nmbr, itemsT, it_rng1, it_rng2, gt, gets, R.get, Cn.d, bool1, tms, tm1, bindTg, endDs, lentOk, back, mutR, wrR, putR, M.ev, wipeE, setP, asSeq, asTup, v_gt, hu, b5, b7, b8, g5, sLine]
        · simp [f_law_whom, startE, sms_nil, sms_cons, sm_asg, sm_sub, sm_expr, sm_iff, sm_for, sm_whil, sm_ret, sm_retn, sm_brk, sm_pass, ex_con, ex_glo, ex_kix, ex_dlit, ex_var, ex_vz, ex_pk, ex_mv, ex_cs, ex_prim, ex_ix, ex_tup, ex_lst, ex_nott, ex_ands, ex_ors, ex_ite, ex_chain, ex_call, ex_fld, ex_meth, ex_new, sm_sfld, sm_nev, ex_mut, ex_lc, exs_nil, exs_cons, it_seq, it_enum, enumT, nmbr, itemsT, it_rng1, it_rng2, gt, gets, R.get, Cn.d, bool1, tms, tm1, bindTg, endDs, lentOk, back, mutR, wrR, putR, M.ev, wipeE, setP, asSeq, asTup, v_gt, hu, b5, b8, g5, sLine]
theorem lcL_zip {α : Type} {f : D → Env → Option (Option D × Env)} {e : Env} (a b : α → D) : ∀ (xs : List α) (acc : List D), (∀ x ∈ xs, f (a x) e = some (some (b x), e)) → acc.length + xs.length ≤ sLine → lcL f (xs.map a) acc e = some (acc ++ xs.map b, e)
  | [], acc, _, _ => by simp [lcL]
  | x :: xs, acc, h, hl => by
    have ih := lcL_zip a b xs (acc ++ [b x]) (fun y hy => h y (List.mem_cons_of_mem _ hy)) (by simp at hl ⊢; omega)
    rw [List.map_cons]
    simp only [lcL, h x List.mem_cons_self]
    rw [if_pos (by simp at hl; omega), ih]
    simp
theorem ixT {e : Env} {a : Nat} {xs : List D} (hg : gt e a = some (.tup xs)) (i : Int) (j : Nat) (hi : i = j) (x : D) (hx : xs[j]? = some x) (hf : x.fz = true) : ixR e (.sl a) (.int i) = some (.tm x) := by
  have h1 : ixP xs.length i = some j := by rw [hi]; exact ixP_nat (List.getElem?_eq_some_iff.mp hx).1
  simp only [ixR, R.get, hg, asSeq, h1, hx, hf, if_true]
theorem frs_strs (ws : List Str) : frs (ws.map D.str) = ws.map D.str := by
  induction ws with
  | nil => rfl
  | cons x ws ih => simp [ih]
theorem fl_ats {fl : Nat → Str → Bool} {e : Env} {i c j : Nat} {ns : List Str} {xs : List D} {n : Str} {d : D} {o : Bool} (h : gt e i = some (.nd (.ins c ns) o xs)) (h1 : fl c n = true) (h2 : ns.findIdx? (· = n) = some j) (h3 : xs[j]? = some d) (h4 : d.fz = true) : fldR fl e (.sl i) n = some (.tm d) := by
  simp only [fldR, R.get, h, h1, if_true, h2, h3, h4]
theorem rngL_r' {m : Nat} {i : Int} (hi : i = m) (h : m < 1000) : rngL 0 i = some ((List.range' 0 m).map fun k : Nat => D.int (k : Int)) := by
  rw [hi, rngL_nat m (by omega), List.range_eq_range']
theorem app_ok {ds : List D} (h : ds.length < 1000) : ∀ d, M.ev .append ds [d] = some (ds ++ [d], .non) := fun d => by
  show (if ds.length < sLine then _ else _) = _
  rw [if_pos (by simp only [sLine]; omega)]
theorem lcL_fil {α : Type} {f : D → Env → Option (Option D × Env)} {e : Env} (a b : α → D) (p : α → Bool) : ∀ (xs : List α) (acc : List D), (∀ x ∈ xs, f (a x) e = some (if p x then some (b x) else none, e)) → acc.length + xs.length ≤ sLine → lcL f (xs.map a) acc e = some (acc ++ (xs.filter p).map b, e)
  | [], acc, _, _ => by simp [lcL]
  | x :: xs, acc, h, hl => by
    have h0 := h x List.mem_cons_self
    rw [List.map_cons]
    cases q : p x with
    | true =>
      have ih := lcL_fil a b p xs (acc ++ [b x]) (fun y hy => h y (List.mem_cons_of_mem _ hy)) (by simp at hl ⊢; omega)
      simp only [lcL, h0, q, if_true]
      rw [if_pos (by simp at hl; omega), ih, List.filter_cons_of_pos q]
      simp
    | false =>
      have ih := lcL_fil a b p xs acc (fun y hy => h y (List.mem_cons_of_mem _ hy)) (by simp at hl ⊢; omega)
      rw [List.filter_cons_of_neg (by simp [q])]
      simp only [lcL, h0, q, Bool.false_eq_true, if_false]
      exact ih
theorem ixK {k : Kd} (hk : k = .lst ∨ k = .tup) {o : Bool} {xs : List D} {e : Env} {a : Nat} (hg : gt e a = some (.nd k o xs)) (i : Int) (j : Nat) (hi : i = j) (x : D) (hx : xs[j]? = some x) (hf : x.fz = true) : ixR e (.sl a) (.int i) = some (.tm x) := by
  have h1 : ixP xs.length i = some j := by rw [hi]; exact ixP_nat (List.getElem?_eq_some_iff.mp hx).1
  rcases hk with rfl | rfl
  · simp only [ixR, R.get, hg, asSeq, h1, hx, hf, if_true]
  · simp only [ixR, R.get, hg, asSeq, h1, hx, hf, if_true]
theorem ix_tms {k : Kd} (hk : k = .lst ∨ k = .tup) (o : Bool) {xs : List D} (e : Env) (i : Int) (j : Nat) (hi : i = j) (x : D) (hx : xs[j]? = some x) (hf : x.fz = true) : ixR e (.tm (.nd k o xs)) (.int i) = some (.tm x) := by
  have h1 : ixP xs.length i = some j := by rw [hi]; exact ixP_nat (List.getElem?_eq_some_iff.mp hx).1
  rcases hk with rfl | rfl
  · simp only [ixR, R.get, asSeq, h1, hx, hf, if_true]
  · simp only [ixR, R.get, asSeq, h1, hx, hf, if_true]
theorem eqs_refl {f : D → D → Option Bool} : ∀ (xs : List D), (∀ x ∈ xs, eqi f x x = some true) → eqs f xs xs = some true
  | [], _ => rfl
  | x :: xs, h => by simp only [eqs, h x List.mem_cons_self, eqs_refl xs fun y hy => h y (List.mem_cons_of_mem _ hy), Bool.and_self]
theorem eqv_nd (n : Nat) {k : Kd} (h : k.sq ≠ 0) (o o' : Bool) (xs : List D) (hx : ∀ x ∈ xs, eqi (D.eqv n) x x = some true) : D.eqv (n + 1) (.nd k o xs) (.nd k o' xs) = some true := by
  simp only [D.eqv, eqs_refl xs hx]
  simp [h]
theorem eqi_str (n : Nat) (z : Str) : eqi (D.eqv n) (.str z) (.str z) = some true := by cases n <;> simp [eqi, tagEq, D.eqv, eqS]
theorem eqi_int (n : Nat) (z : Int) : eqi (D.eqv n) (.int z) (.int z) = some true := by cases n <;> simp [eqi, tagEq, D.eqv, eqS]
theorem eqi_nd {n : Nat} {k : Kd} (h : k.sq ≠ 0) (o : Bool) (xs : List D) (hx : D.eqv n (.nd k o xs) (.nd k o xs) = some true) : eqi (D.eqv n) (.nd k o xs) (.nd k o xs) = some true := by
  unfold eqi
  split
  · rfl
  · exact hx
/-! ### sights -/
structure Sr where
  no : Int
  kp : Int
  ms : List Str
  fo : Int
  mu : Bool
def Sr.d (r : Sr) : D := .tup [.int r.no, .int r.kp, .tup (r.ms.map .str), .int r.fo, .bl r.mu]
theorem Sr.fz (r : Sr) : r.d.fz = true := by simp [Sr.d, wl_fz]
theorem fz_list {α : Type} (f : α → D) (h : ∀ a, (f a).fz = true) : ∀ xs : List α, fzs (xs.map f) = true
  | [] => rfl
  | x :: xs => by simp [h x, fz_list f h xs]
theorem srs_fz (si : List Sr) : fzs (si.map Sr.d) = true := fz_list _ Sr.fz si
abbrev SI (o : Bool) (si : List Sr) : D := .nd .lst o (si.map Sr.d)
/-- the thing of a number -/
def findN {α : Type} (no : α → Int) (xs : List α) (t : Int) : Option α := xs.find? fun a => decide (no a = t)
def optD {α : Type} (f : α → D) : Option α → D
  | some a => f a
  | none => .non
theorem row_eq (n : Nat) (S RD : D) (t no : Int) (x2 : Option D) (i0 : ∀ e, gt e 2 = some RD → ixR e (.sl 2) (.int 0) = some (.tm (.int no))) (fr : RD.fr = RD) (h : no = t) : forB G (evF G fns n) (.nm 2) f_row_of_b0 RD [some S, some (.int t), x2] = some (.ret RD [some S, some (.int t), some RD]) := by
  simp [forB, f_row_of_b0, sms_nil, sms_cons, sm_asg, sm_sub, sm_expr, sm_iff, sm_for, sm_whil, sm_ret, sm_retn, sm_brk, sm_pass, ex_con, ex_glo, ex_kix, ex_dlit, ex_var, ex_vz, ex_pk, ex_mv, ex_cs, ex_prim, ex_ix, ex_tup, ex_lst, ex_nott, ex_ands, ex_ors, ex_ite, ex_chain, ex_call, ex_fld, ex_meth, ex_new, sm_sfld, sm_nev, ex_mut, ex_lc, exs_nil, exs_cons, it_seq, it_enum, enumT, nmbr, itemsT, it_rng1, it_rng2, gt, gets, R.get, Cn.d, bool1, tms, tm1, bindTg, endDs, lentOk, back, mutR, wrR, putR, M.ev, wipeE, setP, asSeq, asTup, i0, fr, h, v_eqi]
theorem row_ne (n : Nat) (S RD : D) (t no : Int) (x2 : Option D) (i0 : ∀ e, gt e 2 = some RD → ixR e (.sl 2) (.int 0) = some (.tm (.int no))) (h : ¬ no = t) : forB G (evF G fns n) (.nm 2) f_row_of_b0 RD [some S, some (.int t), x2] = some (.nx [some S, some (.int t), some RD]) := by
  simp [forB, f_row_of_b0, sms_nil, sms_cons, sm_asg, sm_sub, sm_expr, sm_iff, sm_for, sm_whil, sm_ret, sm_retn, sm_brk, sm_pass, ex_con, ex_glo, ex_kix, ex_dlit, ex_var, ex_vz, ex_pk, ex_mv, ex_cs, ex_prim, ex_ix, ex_tup, ex_lst, ex_nott, ex_ands, ex_ors, ex_ite, ex_chain, ex_call, ex_fld, ex_meth, ex_new, sm_sfld, sm_nev, ex_mut, ex_lc, exs_nil, exs_cons, it_seq, it_enum, enumT, nmbr, itemsT, it_rng1, it_rng2, gt, gets, R.get, Cn.d, bool1, tms, tm1, bindTg, endDs, lentOk, back, mutR, wrR, putR, M.ev, wipeE, setP, asSeq, asTup, i0, h, v_eqi]
theorem row_for {α : Type} (f : α → D) (no : α → Int) (hf : ∀ a, (f a).fr = f a) (h0 : ∀ a i e, gt e i = some (f a) → ixR e (.sl i) (.int 0) = some (.tm (.int (no a)))) (n : Nat) (S : D) (t : Int) : ∀ (xs : List α) (x2 : Option D),
    (∀ a, findN no xs t = some a → forL (forB G (evF G fns n) (.nm 2) f_row_of_b0) (xs.map f) [some S, some (.int t), x2] = some (.ret (f a) [some S, some (.int t), some (f a)])) ∧ (findN no xs t = none → ∃ y2, forL (forB G (evF G fns n) (.nm 2) f_row_of_b0) (xs.map f) [some S, some (.int t), x2] = some (.nx [some S, some (.int t), y2]))
  | [], x2 => ⟨fun a h => by simp [findN] at h, fun _ => ⟨x2, rfl⟩⟩
  | a :: xs, x2 => by
    by_cases h : no a = t
    · have b := row_eq n S (f a) t (no a) x2 (h0 a 2) (hf a) h
      have e : findN no (a :: xs) t = some a := by simp [findN, List.find?_cons, h]
      rw [e]
      refine ⟨fun a' q => ?_, fun q => by cases q⟩
      cases q
      rw [List.map_cons]
      simp only [forL, b]
    · have b := row_ne n S (f a) t (no a) x2 (h0 a 2) h
      have e : findN no (a :: xs) t = findN no xs t := by simp [findN, List.find?_cons, h]
      rw [e, List.map_cons]
      simp only [forL, b]
      exact row_for f no hf h0 n S t xs (some (f a))
theorem row_of1 (n : Nat) (S RR : D) (t : Int) (XS : List D) (hi : items S = some XS) (hf : (∃ e2, forL (forB G (evF G fns n) (.nm 2) f_row_of_b0) XS [some S, some (.int t), none] = some (.ret RR [some S, some (.int t), e2])) ∨ (RR = .non ∧ ∃ y2, forL (forB G (evF G fns n) (.nm 2) f_row_of_b0) XS [some S, some (.int t), none] = some (.nx [some S, some (.int t), y2]))) :
    evF G fns (n + 1) 2 [S, .int t] = some (RR, [S, .int t]) := by
  rcases hf with ⟨e2, hf⟩ | ⟨rfl, y2, hf⟩
  · rw [evF_at (fn := f_row_of) rfl rfl]
    simp [f_row_of, startE, sms_nil, sms_cons, sm_asg, sm_sub, sm_expr, sm_iff, sm_for, sm_whil, sm_ret, sm_retn, sm_brk, sm_pass, ex_con, ex_glo, ex_kix, ex_dlit, ex_var, ex_vz, ex_pk, ex_mv, ex_cs, ex_prim, ex_ix, ex_tup, ex_lst, ex_nott, ex_ands, ex_ors, ex_ite, ex_chain, ex_call, ex_fld, ex_meth, ex_new, sm_sfld, sm_nev, ex_mut, ex_lc, exs_nil, exs_cons, it_seq, it_enum, enumT, nmbr, itemsT, it_rng1, it_rng2, gt, gets, R.get, Cn.d, bool1, tms, tm1, bindTg, endDs, lentOk, back, mutR, wrR, putR, M.ev, wipeE, setP, asSeq, asTup, hi, hf]
  · rw [evF_at (fn := f_row_of) rfl rfl]
    simp [f_row_of, startE, sms_nil, sms_cons, sm_asg, sm_sub, sm_expr, sm_iff, sm_for, sm_whil, sm_ret, sm_retn, sm_brk, sm_pass, ex_con, ex_glo, ex_kix, ex_dlit, ex_var, ex_vz, ex_pk, ex_mv, ex_cs, ex_prim, ex_ix, ex_tup, ex_lst, ex_nott, ex_ands, ex_ors, ex_ite, ex_chain, ex_call, ex_fld, ex_meth, ex_new, sm_sfld, sm_nev, ex_mut, ex_lc, exs_nil, exs_cons, it_seq, it_enum, enumT, nmbr, itemsT, it_rng1, it_rng2, gt, gets, R.get, Cn.d, bool1, tms, tm1, bindTg, endDs, lentOk, back, mutR, wrR, putR, M.ev, wipeE, setP, asSeq, asTup, hi, hf]
theorem rowN' {α : Type} (f : α → D) (no : α → Int) (hf : ∀ a, (f a).fz = true) (h0 : ∀ a i e, gt e i = some (f a) → ixR e (.sl i) (.int 0) = some (.tm (.int (no a)))) (n : Nat) (hn : 1 ≤ n) (o : Bool) (xs : List α) (t : Int) :
    evF G fns n 2 [.nd .lst o (xs.map f), .int t] = some (optD f (findN no xs t), [.nd .lst o (xs.map f), .int t]) := by
  obtain ⟨n, rfl⟩ : ∃ m, n = m + 1 := ⟨n - 1, by omega⟩
  obtain ⟨h1, h2⟩ := row_for f no (fun a => D.fr_fz _ (hf a)) h0 n (.nd .lst o (xs.map f)) t xs none
  refine row_of1 n _ _ t (xs.map f) (by rw [items_l, if_pos (fz_list f hf xs)]) ?_
  cases e : findN no xs t with
  | some a => exact .inl ⟨_, h1 a e⟩
  | none => exact .inr ⟨rfl, h2 e⟩
theorem Sr.i0 (r : Sr) (i : Nat) : ∀ e, gt e i = some r.d → ixR e (.sl i) (.int 0) = some (.tm (.int r.no)) := fun e h => ixT h 0 0 rfl _ rfl rfl
theorem Sr.i1 (r : Sr) (i : Nat) : ∀ e, gt e i = some r.d → ixR e (.sl i) (.int 1) = some (.tm (.int r.kp)) := fun e h => ixT h 1 1 rfl _ rfl rfl
theorem Sr.i2 (r : Sr) (i : Nat) : ∀ e, gt e i = some r.d → ixR e (.sl i) (.int 2) = some (.tm (.tup (r.ms.map .str))) := fun e h => ixT h 2 2 rfl _ rfl (by simp [wl_fz])
theorem Sr.i3 (r : Sr) (i : Nat) : ∀ e, gt e i = some r.d → ixR e (.sl i) (.int 3) = some (.tm (.int r.fo)) := fun e h => ixT h 3 3 rfl _ rfl rfl
theorem Sr.i4 (r : Sr) (i : Nat) : ∀ e, gt e i = some r.d → ixR e (.sl i) (.int 4) = some (.tm (.bl r.mu)) := fun e h => ixT h 4 4 rfl _ rfl rfl
abbrev rowS (si : List Sr) (t : Int) : Option Sr := findN Sr.no si t
/-! ### what fits -/
def fitsR (row : Option Sr) (nu ke th : Int) : Wh → Bool
  | .all => true
  | .self => decide (th = nu)
  | .mine => match row with
    | none => decide (th = -1 - ke)
    | some r => decide (r.kp = ke)
  | .mark n => match row with
    | none => false
    | some r => decide (n ∈ r.ms)
  | .force m => match row with
    | none => false
    | some r => decide ((m : Int) ≤ r.fo)
  | .not a => !fitsR row nu ke th a
  | .pair w a b => if w then fitsR row nu ke th a && fitsR row nu ke th b else fitsR row nu ke th a || fitsR row nu ke th b
def fits (si : List Sr) (nu ke th : Int) (w : Wh) : Bool := fitsR (rowS si th) nu ke th w
theorem in_strs (x : Str) (ms : List Str) : P.ev .inn [.str x, .nd .tup false (ms.map .str)] = some (.bl (decide (x ∈ ms))) := by
  have h : inSeq 60 (.str x) (ms.map .str) = some (decide (x ∈ ms)) := by
    induction ms with
    | nil => rfl
    | cons y ms ih =>
      show (match (D.str y).eqv 60 (.str x), inSeq 60 (.str x) (ms.map .str) with | some a, some b => some (a || b) | _, _ => none) = _
      rw [ih]
      show some ((y == x) || decide (x ∈ ms)) = _
      congr 1
      by_cases e : y = x
      · rw [beq_iff_eq.mpr e, decide_eq_true (show x ∈ y :: ms by rw [e]; exact List.mem_cons_self)]
        rfl
      · rw [beq_eq_false_iff_ne.mpr e, Bool.false_or]
        by_cases q : x ∈ ms
        · rw [decide_eq_true q, decide_eq_true (List.mem_cons_of_mem _ q)]
        · rw [decide_eq_false q, decide_eq_false fun z => (List.mem_cons.mp z).elim (fun z => e z.symm) q]
  show ((inSeq 60 (.str x) (ms.map .str)).map D.bl) = _
  rw [h]; rfl
def Wh.ff : Wh → Nat
  | .all => 18 | .self => 19 | .mine => 20 | .mark _ => 22 | .force _ => 24 | .not _ => 26 | .pair _ _ _ => 28
def Wh.cn : Wh → Nat × List Str
  | .all => (0, []) | .self => (1, []) | .mine => (2, []) | .mark _ => (3, ["name"]) | .force _ => (4, ["least"]) | .not _ => (5, ["part"]) | .pair _ _ _ => (6, ["word", "one", "other"])
/-- a whom, with a tag or without -/
def WhOf : Wh → D → Prop
  | .all, x => ∃ t, t < 1000000 ∧ x = .nd (.ins (0 + 1000 * t) []) false []
  | .self, x => ∃ t, t < 1000000 ∧ x = .nd (.ins (1 + 1000 * t) []) false []
  | .mine, x => ∃ t, t < 1000000 ∧ x = .nd (.ins (2 + 1000 * t) []) false []
  | .mark n, x => ∃ t, t < 1000000 ∧ x = .nd (.ins (3 + 1000 * t) ["name"]) false [.str n]
  | .force m, x => ∃ t, t < 1000000 ∧ x = .nd (.ins (4 + 1000 * t) ["least"]) false [.int m]
  | .not a, x => ∃ t y, t < 1000000 ∧ x = .nd (.ins (5 + 1000 * t) ["part"]) false [y] ∧ WhOf a y
  | .pair w a b, x => ∃ t y z, t < 1000000 ∧ x = .nd (.ins (6 + 1000 * t) ["word", "one", "other"]) false [.str (pw w), y, z] ∧ WhOf a y ∧ WhOf b z
theorem WhOf.fz : ∀ (w : Wh) {x : D}, WhOf w x → x.fz = true
  | .all, x, ⟨t, _, e⟩ => by rw [e]; rfl
  | .self, x, ⟨t, _, e⟩ => by rw [e]; rfl
  | .mine, x, ⟨t, _, e⟩ => by rw [e]; rfl
  | .mark n, x, ⟨t, _, e⟩ => by rw [e]; rfl
  | .force m, x, ⟨t, _, e⟩ => by rw [e]; rfl
  | .not a, x, ⟨t, y, _, e, h⟩ => by rw [e]; simp [WhOf.fz a h]
  | .pair w a b, x, ⟨t, y, z, _, e, h1, h2⟩ => by rw [e]; simp [WhOf.fz a h1, WhOf.fz b h2]
theorem whOf_fd : ∀ (w : Wh), WhOf w w.fd
  | .all => ⟨0, by omega, rfl⟩
  | .self => ⟨0, by omega, rfl⟩
  | .mine => ⟨0, by omega, rfl⟩
  | .mark n => ⟨0, by omega, rfl⟩
  | .force k => ⟨0, by omega, rfl⟩
  | .not a => ⟨0, _, by omega, rfl, whOf_fd a⟩
  | .pair w a b => ⟨0, _, _, by omega, rfl, whOf_fd a, whOf_fd b⟩
theorem wh_meth (c t : Nat) (hc : c < 1000) (ht : t < 1000000) (m : Str) (f : Nat) (h : (mTab.getD c []).lookup m = some f) : G.meths (c + 1000 * t) m = some f := by
  show (if c + 1000 * t < 1000000000 then (mTab.getD ((c + 1000 * t) % 1000) []).lookup m else none) = some f
  rw [if_pos (by omega), show (c + 1000 * t) % 1000 = c by omega, h]
theorem wh_fld (c t : Nat) (hc : c < 1000) (ht : t < 1000000) (n : Str) (hn : (fTab.getD c []).contains n = true) : G.flds (c + 1000 * t) n = true := by
  show (decide (c + 1000 * t < 1000000000) && (fTab.getD ((c + 1000 * t) % 1000) []).contains n) = true
  rw [decide_eq_true (by omega), show (c + 1000 * t) % 1000 = c by omega, hn]
  rfl
/-- its class -/
theorem WhOf.out {w : Wh} {x : D} (h : WhOf w x) : ∃ (ci : Nat) (ns : List Str) (xs : List D), x = .nd (.ins ci ns) false xs ∧ ns.contains "fits" = false ∧ G.meths ci "fits" = some w.ff ∧ fzs xs = true := by
  have z := WhOf.fz w h
  cases w with
  | all => obtain ⟨t, h1, rfl⟩ := h; exact ⟨_, _, _, rfl, by kernel_rfl, wh_meth _ t (by omega) h1 _ _ (by kernel_rfl), by simpa using z⟩
  | self => obtain ⟨t, h1, rfl⟩ := h; exact ⟨_, _, _, rfl, by kernel_rfl, wh_meth _ t (by omega) h1 _ _ (by kernel_rfl), by simpa using z⟩
  | mine => obtain ⟨t, h1, rfl⟩ := h; exact ⟨_, _, _, rfl, by kernel_rfl, wh_meth _ t (by omega) h1 _ _ (by kernel_rfl), by simpa using z⟩
  | mark n => obtain ⟨t, h1, rfl⟩ := h; exact ⟨_, _, _, rfl, by kernel_rfl, wh_meth _ t (by omega) h1 _ _ (by kernel_rfl), by simpa using z⟩
  | force k => obtain ⟨t, h1, rfl⟩ := h; exact ⟨_, _, _, rfl, by kernel_rfl, wh_meth _ t (by omega) h1 _ _ (by kernel_rfl), by simpa using z⟩
  | not a => obtain ⟨t, y, h1, rfl, h2⟩ := h; exact ⟨_, _, _, rfl, by kernel_rfl, wh_meth _ t (by omega) h1 _ _ (by kernel_rfl), by simpa using z⟩
  | pair w a b => obtain ⟨t, y, z', h1, rfl, h2⟩ := h; exact ⟨_, _, _, rfl, by kernel_rfl, wh_meth _ t (by omega) h1 _ _ (by kernel_rfl), by simpa using z⟩
/-! ### what fits, by the program -/
theorem all1 (n : Nat) (X SD A B C : D) : evF G fns (n + 1) 18 [X, SD, A, B, C] = some (.bl true, [X, SD, A, B, C]) := by
  rw [evF_at (fn := f_Whom_fits) rfl rfl]
  simp [f_Whom_fits, startE, sms_nil, sms_cons, sm_asg, sm_sub, sm_expr, sm_iff, sm_for, sm_whil, sm_ret, sm_retn, sm_brk, sm_pass, ex_con, ex_glo, ex_kix, ex_dlit, ex_var, ex_vz, ex_pk, ex_mv, ex_cs, ex_prim, ex_ix, ex_tup, ex_lst, ex_nott, ex_ands, ex_ors, ex_ite, ex_chain, ex_call, ex_fld, ex_meth, ex_new, sm_sfld, sm_nev, ex_mut, ex_lc, exs_nil, exs_cons, it_seq, it_enum, enumT, nmbr, itemsT, it_rng1, it_rng2, gt, gets, R.get, Cn.d, bool1, tms, tm1, bindTg, endDs, lentOk, back, mutR, wrR, putR, M.ev, wipeE, setP, asSeq, asTup]
theorem self1 (n : Nat) (X SD : D) (nu ke th : Int) : evF G fns (n + 1) 19 [X, SD, .int nu, .int ke, .int th] = some (.bl (decide (th = nu)), [X, SD, .int nu, .int ke, .int th]) := by
  rw [evF_at (fn := f_Itself_fits) rfl rfl]
  simp [f_Itself_fits, startE, sms_nil, sms_cons, sm_asg, sm_sub, sm_expr, sm_iff, sm_for, sm_whil, sm_ret, sm_retn, sm_brk, sm_pass, ex_con, ex_glo, ex_kix, ex_dlit, ex_var, ex_vz, ex_pk, ex_mv, ex_cs, ex_prim, ex_ix, ex_tup, ex_lst, ex_nott, ex_ands, ex_ors, ex_ite, ex_chain, ex_call, ex_fld, ex_meth, ex_new, sm_sfld, sm_nev, ex_mut, ex_lc, exs_nil, exs_cons, it_seq, it_enum, enumT, nmbr, itemsT, it_rng1, it_rng2, gt, gets, R.get, Cn.d, bool1, tms, tm1, bindTg, endDs, lentOk, back, mutR, wrR, putR, M.ev, wipeE, setP, asSeq, asTup, v_eqi]
theorem mine1 (n : Nat) (X SD : D) (nu ke th : Int) (row : Option Sr) (hr : evF G fns n 2 [SD, .int th] = some (optD Sr.d row, [SD, .int th])) : evF G fns (n + 1) 20 [X, SD, .int nu, .int ke, .int th] = some (.bl (fitsR row nu ke th .mine), [X, SD, .int nu, .int ke, .int th]) := by
  rw [evF_at (fn := f_Mine_fits) rfl rfl]
  cases row with
  | none =>
    have h1 : P.ev .isn [.non] = some (.bl true) := rfl
    have h2 : P.ev .neg [.int 1] = some (.int (-1)) := rfl
    simp only [optD] at hr
    simp [f_Mine_fits, startE, sms_nil, sms_cons, sm_asg, sm_sub, sm_expr, sm_iff, sm_for, sm_whil, sm_ret, sm_retn, sm_brk, sm_pass, ex_con, ex_glo, ex_kix, ex_dlit, ex_var, ex_vz, ex_pk, ex_mv, ex_cs, ex_prim, ex_ix, ex_tup, ex_lst, ex_nott, ex_ands, ex_ors, ex_ite, ex_chain, ex_call, ex_fld, ex_meth, ex_new, sm_sfld, sm_nev, ex_mut, ex_lc, exs_nil, exs_cons, it_seq, it_enum, enumT, nmbr, itemsT, it_rng1, it_rng2, gt, gets, R.get, Cn.d, bool1, tms, tm1, bindTg, endDs, lentOk, back, mutR, wrR, putR, M.ev, wipeE, setP, asSeq, asTup, hr, h1, h2, v_eqi, v_sub, fitsR]
  | some r =>
    have h1 : P.ev .isn [r.d] = some (.bl false) := rfl
    have i1 := r.i1 5
    simp only [optD] at hr
    show _ = some (D.bl (decide (r.kp = ke)), _)
    generalize r.d = RD at *
    simp [f_Mine_fits, startE, sms_nil, sms_cons, sm_asg, sm_sub, sm_expr, sm_iff, sm_for, sm_whil, sm_ret, sm_retn, sm_brk, sm_pass, ex_con, ex_glo, ex_kix, ex_dlit, ex_var, ex_vz, ex_pk, ex_mv, ex_cs, ex_prim, ex_ix, ex_tup, ex_lst, ex_nott, ex_ands, ex_ors, ex_ite, ex_chain, ex_call, ex_fld, ex_meth, ex_new, sm_sfld, sm_nev, ex_mut, ex_lc, exs_nil, exs_cons, it_seq, it_enum, enumT, nmbr, itemsT, it_rng1, it_rng2, gt, gets, R.get, Cn.d, bool1, tms, tm1, bindTg, endDs, lentOk, back, mutR, wrR, putR, M.ev, wipeE, setP, asSeq, asTup, hr, h1, i1, v_eqi]
theorem mark1 (n : Nat) (X SD : D) (nu ke th : Int) (nm : Str) (row : Option Sr) (hf : ∀ e, gt e 0 = some X → fldR G.flds e (.sl 0) "name" = some (.tm (.str nm))) (hr : evF G fns n 2 [SD, .int th] = some (optD Sr.d row, [SD, .int th])) : evF G fns (n + 1) 22 [X, SD, .int nu, .int ke, .int th] = some (.bl (fitsR row nu ke th (.mark nm)), [X, SD, .int nu, .int ke, .int th]) := by
  rw [evF_at (fn := f_Marked_fits) rfl rfl]
  cases row with
  | none =>
    have h1 : P.ev .notn [.non] = some (.bl false) := rfl
    simp only [optD] at hr
    simp [f_Marked_fits, startE, sms_nil, sms_cons, sm_asg, sm_sub, sm_expr, sm_iff, sm_for, sm_whil, sm_ret, sm_retn, sm_brk, sm_pass, ex_con, ex_glo, ex_kix, ex_dlit, ex_var, ex_vz, ex_pk, ex_mv, ex_cs, ex_prim, ex_ix, ex_tup, ex_lst, ex_nott, ex_ands, ex_ors, ex_ite, ex_chain, ex_call, ex_fld, ex_meth, ex_new, sm_sfld, sm_nev, ex_mut, ex_lc, exs_nil, exs_cons, it_seq, it_enum, enumT, nmbr, itemsT, it_rng1, it_rng2, gt, gets, R.get, Cn.d, bool1, tms, tm1, bindTg, endDs, lentOk, back, mutR, wrR, putR, M.ev, wipeE, setP, asSeq, asTup, hr, h1, fitsR]
  | some r =>
    have h1 : P.ev .notn [r.d] = some (.bl true) := rfl
    have i2 := r.i2 5
    have h2 := in_strs nm r.ms
    simp only [optD] at hr
    show _ = some (D.bl (decide (nm ∈ r.ms)), _)
    generalize r.d = RD at *
    simp [f_Marked_fits, startE, sms_nil, sms_cons, sm_asg, sm_sub, sm_expr, sm_iff, sm_for, sm_whil, sm_ret, sm_retn, sm_brk, sm_pass, ex_con, ex_glo, ex_kix, ex_dlit, ex_var, ex_vz, ex_pk, ex_mv, ex_cs, ex_prim, ex_ix, ex_tup, ex_lst, ex_nott, ex_ands, ex_ors, ex_ite, ex_chain, ex_call, ex_fld, ex_meth, ex_new, sm_sfld, sm_nev, ex_mut, ex_lc, exs_nil, exs_cons, it_seq, it_enum, enumT, nmbr, itemsT, it_rng1, it_rng2, gt, gets, R.get, Cn.d, bool1, tms, tm1, bindTg, endDs, lentOk, back, mutR, wrR, putR, M.ev, wipeE, setP, asSeq, asTup, hr, h1, i2, hf, h2]
theorem strong1 (n : Nat) (X SD : D) (nu ke th m : Int) (k : Nat) (hm : m = k) (row : Option Sr) (hf : ∀ e, gt e 0 = some X → fldR G.flds e (.sl 0) "least" = some (.tm (.int m))) (hr : evF G fns n 2 [SD, .int th] = some (optD Sr.d row, [SD, .int th])) : evF G fns (n + 1) 24 [X, SD, .int nu, .int ke, .int th] = some (.bl (fitsR row nu ke th (.force k)), [X, SD, .int nu, .int ke, .int th]) := by
  rw [evF_at (fn := f_Strong_fits) rfl rfl]
  cases row with
  | none =>
    have h1 : P.ev .notn [.non] = some (.bl false) := rfl
    simp only [optD] at hr
    simp [f_Strong_fits, startE, sms_nil, sms_cons, sm_asg, sm_sub, sm_expr, sm_iff, sm_for, sm_whil, sm_ret, sm_retn, sm_brk, sm_pass, ex_con, ex_glo, ex_kix, ex_dlit, ex_var, ex_vz, ex_pk, ex_mv, ex_cs, ex_prim, ex_ix, ex_tup, ex_lst, ex_nott, ex_ands, ex_ors, ex_ite, ex_chain, ex_call, ex_fld, ex_meth, ex_new, sm_sfld, sm_nev, ex_mut, ex_lc, exs_nil, exs_cons, it_seq, it_enum, enumT, nmbr, itemsT, it_rng1, it_rng2, gt, gets, R.get, Cn.d, bool1, tms, tm1, bindTg, endDs, lentOk, back, mutR, wrR, putR, M.ev, wipeE, setP, asSeq, asTup, hr, h1, fitsR]
  | some r =>
    have h1 : P.ev .notn [r.d] = some (.bl true) := rfl
    have i3 := r.i3 5
    simp only [optD] at hr
    show _ = some (D.bl (decide ((k : Int) ≤ r.fo)), _)
    rw [← hm]
    generalize r.d = RD at *
    simp [f_Strong_fits, startE, sms_nil, sms_cons, sm_asg, sm_sub, sm_expr, sm_iff, sm_for, sm_whil, sm_ret, sm_retn, sm_brk, sm_pass, ex_con, ex_glo, ex_kix, ex_dlit, ex_var, ex_vz, ex_pk, ex_mv, ex_cs, ex_prim, ex_ix, ex_tup, ex_lst, ex_nott, ex_ands, ex_ors, ex_ite, ex_chain, ex_call, ex_fld, ex_meth, ex_new, sm_sfld, sm_nev, ex_mut, ex_lc, exs_nil, exs_cons, it_seq, it_enum, enumT, nmbr, itemsT, it_rng1, it_rng2, gt, gets, R.get, Cn.d, bool1, tms, tm1, bindTg, endDs, lentOk, back, mutR, wrR, putR, M.ev, wipeE, setP, asSeq, asTup, hr, h1, i3, hf, v_ge]
theorem not1 (n : Nat) (X SD : D) (nu ke th : Int) (ci f : Nat) (ns : List Str) (xs : List D) (b : Bool) (hf : ∀ e, gt e 0 = some X → fldR G.flds e (.sl 0) "part" = some (.tm (.nd (.ins ci ns) false xs))) (h1 : ("fits" : Str) ∉ ns) (h2 : G.meths ci "fits" = some f)
    (hc : evF G fns n f [.nd (.ins ci ns) false xs, SD, .int nu, .int ke, .int th] = some (.bl b, [.nd (.ins ci ns) false xs, SD, .int nu, .int ke, .int th])) : evF G fns (n + 1) 26 [X, SD, .int nu, .int ke, .int th] = some (.bl (!b), [X, SD, .int nu, .int ke, .int th]) := by
  rw [evF_at (fn := f_Others_fits) rfl rfl]
  cases sz : SD.fz <;> simp [f_Others_fits, startE, sms_nil, sms_cons, sm_asg, sm_sub, sm_expr, sm_iff, sm_for, sm_whil, sm_ret, sm_retn, sm_brk, sm_pass, ex_con, ex_glo, ex_kix, ex_dlit, ex_var, ex_vz, ex_pk, ex_mv, ex_cs, ex_prim, ex_ix, ex_tup, ex_lst, ex_nott, ex_ands, ex_ors, ex_ite, ex_chain, ex_call, ex_fld, ex_meth, ex_new, sm_sfld, sm_nev, ex_mut, ex_lc, exs_nil, exs_cons, it_seq, it_enum, enumT, nmbr, itemsT, it_rng1, it_rng2, gt, gets, R.get, Cn.d, bool1, tms, tm1, bindTg, endDs, lentOk, back, mutR, wrR, putR, M.ev, wipeE, setP, asSeq, asTup, hf, h1, h2, hc, sz]
theorem pair1 (n : Nat) (X SD : D) (nu ke th : Int) (w : Str) (ci1 f1 ci2 f2 : Nat) (ns1 ns2 : List Str) (xs1 xs2 : List D) (b1 b2 both : Bool) (hw : ∀ e, gt e 0 = some X → fldR G.flds e (.sl 0) "word" = some (.tm (.str w))) (hf1 : ∀ e, gt e 0 = some X → fldR G.flds e (.sl 0) "one" = some (.tm (.nd (.ins ci1 ns1) false xs1))) (hf2 : ∀ e, gt e 0 = some X → fldR G.flds e (.sl 0) "other" = some (.tm (.nd (.ins ci2 ns2) false xs2)))
    (h11 : ("fits" : Str) ∉ ns1) (h12 : G.meths ci1 "fits" = some f1) (h21 : ("fits" : Str) ∉ ns2) (h22 : G.meths ci2 "fits" = some f2) (hb : P.ev .eq [.str w, .str "both"] = some (.bl both))
    (hc1 : evF G fns n f1 [.nd (.ins ci1 ns1) false xs1, SD, .int nu, .int ke, .int th] = some (.bl b1, [.nd (.ins ci1 ns1) false xs1, SD, .int nu, .int ke, .int th])) (hc2 : evF G fns n f2 [.nd (.ins ci2 ns2) false xs2, SD, .int nu, .int ke, .int th] = some (.bl b2, [.nd (.ins ci2 ns2) false xs2, SD, .int nu, .int ke, .int th])) :
    evF G fns (n + 1) 28 [X, SD, .int nu, .int ke, .int th] = some (.bl (if both then b1 && b2 else b1 || b2), [X, SD, .int nu, .int ke, .int th]) := by
  rw [evF_at (fn := f_Pair_fits) rfl rfl]
  cases sz : SD.fz <;> cases both <;> cases b1 <;> simp [f_Pair_fits, startE, sms_nil, sms_cons, sm_asg, sm_sub, sm_expr, sm_iff, sm_for, sm_whil, sm_ret, sm_retn, sm_brk, sm_pass, ex_con, ex_glo, ex_kix, ex_dlit, ex_var, ex_vz, ex_pk, ex_mv, ex_cs, ex_prim, ex_ix, ex_tup, ex_lst, ex_nott, ex_ands, ex_ors, ex_ite, ex_chain, ex_call, ex_fld, ex_meth, ex_new, sm_sfld, sm_nev, ex_mut, ex_lc, exs_nil, exs_cons, it_seq, it_enum, enumT, nmbr, itemsT, it_rng1, it_rng2, gt, gets, R.get, Cn.d, bool1, tms, tm1, bindTg, endDs, lentOk, back, mutR, wrR, putR, M.ev, wipeE, setP, asSeq, asTup, hw, hf1, hf2, h11, h12, h21, h22, hb, hc1, hc2, sz]
theorem fl_get {fl : Nat → Str → Bool} {c j : Nat} {ns : List Str} {xs : List D} {n : Str} {d : D} (h1 : fl c n = true) (h2 : ns.findIdx? (· = n) = some j) (h3 : xs[j]? = some d) (h4 : d.fz = true) (i : Nat) : ∀ e, gt e i = some (.nd (.ins c ns) false xs) → fldR fl e (.sl i) n = some (.tm d) := fun e he => fl_ats he h1 h2 h3 h4
theorem fits_ev (si : List Sr) (o : Bool) (nu ke th : Int) : ∀ (w : Wh) (x : D), WhOf w x → ∀ n, w.dep + 2 ≤ n → evF G fns n w.ff [x, SI o si, .int nu, .int ke, .int th] = some (.bl (fits si nu ke th w), [x, SI o si, .int nu, .int ke, .int th]) := fun w => by
  have rw_ : ∀ n, 1 ≤ n → evF G fns n 2 [SI o si, .int th] = some (optD Sr.d (rowS si th), [SI o si, .int th]) := fun n hn => rowN' Sr.d Sr.no Sr.fz Sr.i0 n hn o si th
  induction w with
  | all =>
    intro x h n hn
    obtain ⟨n, rfl⟩ : ∃ m, n = m + 1 := ⟨n - 1, by omega⟩
    exact all1 n _ _ _ _ _
  | self =>
    intro x h n hn
    obtain ⟨n, rfl⟩ : ∃ m, n = m + 1 := ⟨n - 1, by omega⟩
    exact self1 n _ _ _ _ _
  | mine =>
    intro x h n hn
    obtain ⟨n, rfl⟩ : ∃ m, n = m + 1 := ⟨n - 1, by omega⟩
    exact mine1 n _ _ _ _ _ _ (rw_ n (by omega))
  | mark nm =>
    intro x h n hn
    obtain ⟨n, rfl⟩ : ∃ m, n = m + 1 := ⟨n - 1, by omega⟩
    obtain ⟨t, ht, rfl⟩ := h
    exact mark1 n _ _ _ _ _ nm _ (fl_get (wh_fld _ t (by omega) ht _ (by kernel_rfl)) (j := 0) (by kernel_rfl) rfl rfl 0) (rw_ n (by omega))
  | force k =>
    intro x h n hn
    obtain ⟨n, rfl⟩ : ∃ m, n = m + 1 := ⟨n - 1, by omega⟩
    obtain ⟨t, ht, rfl⟩ := h
    exact strong1 n _ _ _ _ _ _ k rfl _ (fl_get (wh_fld _ t (by omega) ht _ (by kernel_rfl)) (j := 0) (by kernel_rfl) rfl rfl 0) (rw_ n (by omega))
  | not a ih =>
    intro x h n hn
    obtain ⟨n, rfl⟩ : ∃ m, n = m + 1 := ⟨n - 1, by omega⟩
    obtain ⟨t, y, ht, rfl, hy⟩ := h
    have yz := hy.fz
    obtain ⟨ci, ns, xs, rfl, k1, k2, k3⟩ := hy.out
    have hd : (Wh.not a).dep = 1 + a.dep := rfl
    exact not1 n _ _ nu ke th ci _ ns xs _ (fl_get (wh_fld _ t (by omega) ht _ (by kernel_rfl)) (j := 0) (by kernel_rfl) rfl yz 0) (by simpa using k1) k2 (ih _ hy n (by omega))
  | pair w a b iha ihb =>
    intro x h n hn
    obtain ⟨n, rfl⟩ : ∃ m, n = m + 1 := ⟨n - 1, by omega⟩
    obtain ⟨t, y, z, ht, rfl, hy, hz⟩ := h
    have yz := hy.fz
    have zz := hz.fz
    obtain ⟨ci, ns, xs, rfl, k1, k2, k3⟩ := hy.out
    obtain ⟨ci2, ns2, xs2, rfl, l1, l2, l3⟩ := hz.out
    have hd : (Wh.pair w a b).dep = 1 + max a.dep b.dep := rfl
    have hb : P.ev .eq [.str (pw w), .str "both"] = some (.bl w) := by cases w <;> kernel_rfl
    have F := fun nm => wh_fld 6 t (by omega) ht nm
    exact pair1 n _ _ nu ke th (pw w) ci _ ci2 _ ns ns2 xs xs2 _ _ w (fl_get (F _ (by kernel_rfl)) (j := 0) (by kernel_rfl) rfl rfl 0) (fl_get (F _ (by kernel_rfl)) (j := 1) (by kernel_rfl) rfl yz 0) (fl_get (F _ (by kernel_rfl)) (j := 2) (by kernel_rfl) rfl zz 0)
      (by simpa using k1) k2 (by simpa using l1) l2 hb (iha _ hy n (by omega)) (ihb _ hz n (by omega))
/-! ### what fits, by the law -/
theorem row_same : f_law_row_b0 = f_row_of_b0 := rfl
def dfR : Sr := ⟨-9, -9, [], -9, false⟩
def rowL (si : List Sr) (t : Int) : Sr := (rowS si t).getD dfR
theorem lrow1 (n : Nat) (S RR : D) (t : Int) (XS : List D) (hi : items S = some XS) (hf : (∃ e2, forL (forB G (evF G fns n) (.nm 2) f_row_of_b0) XS [some S, some (.int t), none] = some (.ret RR [some S, some (.int t), e2])) ∨ (RR = dfR.d ∧ ∃ y2, forL (forB G (evF G fns n) (.nm 2) f_row_of_b0) XS [some S, some (.int t), none] = some (.nx [some S, some (.int t), y2]))) :
    evF G fns (n + 1) 14 [S, .int t] = some (RR, [S, .int t]) := by
  have h2 : P.ev .neg [.int 9] = some (.int (-9)) := rfl
  rcases hf with ⟨e2, hf⟩ | ⟨rfl, y2, hf⟩
  · rw [evF_at (fn := f_law_row) rfl rfl]
    simp [f_law_row, row_same, startE, sms_nil, sms_cons, sm_asg, sm_sub, sm_expr, sm_iff, sm_for, sm_whil, sm_ret, sm_retn, sm_brk, sm_pass, ex_con, ex_glo, ex_kix, ex_dlit, ex_var, ex_vz, ex_pk, ex_mv, ex_cs, ex_prim, ex_ix, ex_tup, ex_lst, ex_nott, ex_ands, ex_ors, ex_ite, ex_chain, ex_call, ex_fld, ex_meth, ex_new, sm_sfld, sm_nev, ex_mut, ex_lc, exs_nil, exs_cons, it_seq, it_enum, enumT, nmbr, itemsT, it_rng1, it_rng2, gt, gets, R.get, Cn.d, bool1, tms, tm1, bindTg, endDs, lentOk, back, mutR, wrR, putR, M.ev, wipeE, setP, asSeq, asTup, hi, hf]
  · rw [evF_at (fn := f_law_row) rfl rfl]
    simp [f_law_row, row_same, startE, sms_nil, sms_cons, sm_asg, sm_sub, sm_expr, sm_iff, sm_for, sm_whil, sm_ret, sm_retn, sm_brk, sm_pass, ex_con, ex_glo, ex_kix, ex_dlit, ex_var, ex_vz, ex_pk, ex_mv, ex_cs, ex_prim, ex_ix, ex_tup, ex_lst, ex_nott, ex_ands, ex_ors, ex_ite, ex_chain, ex_call, ex_fld, ex_meth, ex_new, sm_sfld, sm_nev, ex_mut, ex_lc, exs_nil, exs_cons, it_seq, it_enum, enumT, nmbr, itemsT, it_rng1, it_rng2, gt, gets, R.get, Cn.d, bool1, tms, tm1, bindTg, endDs, lentOk, back, mutR, wrR, putR, M.ev, wipeE, setP, asSeq, asTup, hi, hf, h2, sLine]
    rfl
theorem itemsL (o : Bool) (xs : List D) (h : fzs xs = true) : items (.nd .lst o xs) = some xs := by rw [items_l, if_pos h]
theorem lrow' (si : List Sr) (o : Bool) (n : Nat) (hn : 1 ≤ n) (t : Int) : evF G fns n 14 [SI o si, .int t] = some ((rowL si t).d, [SI o si, .int t]) := by
  obtain ⟨n, rfl⟩ : ∃ m, n = m + 1 := ⟨n - 1, by omega⟩
  obtain ⟨h1, h2⟩ := row_for Sr.d Sr.no (fun a => D.fr_fz _ a.fz) (fun a => a.i0) n (SI o si) t si none
  refine lrow1 n _ _ t (si.map Sr.d) (itemsL o _ (srs_fz si)) ?_
  unfold rowL
  cases e : rowS si t with
  | some a => exact .inl ⟨_, h1 a e⟩
  | none => exact .inr ⟨rfl, h2 e⟩
/-- what is asked -/
abbrev askD (nu ke th : Int) : D := .tup [.int nu, .int ke, .int th]
theorem lf_not (n : Nat) (W SD : D) (RD : D) (nu ke th i v : Int) (b : Bool) (rf : RD.fr = RD) (hr : evF G fns n 14 [SD, .int th] = some (RD, [SD, .int th])) (hw : ∀ e, gt e 0 = some W → ixR e (.sl 0) (.int i) = some (.tm (.str "not")))
    (hc : evF G fns n 15 [W, .int (i + 1), SD, askD nu ke th] = some (.tup [.bl b, .int v], [W, .int (i + 1), SD, askD nu ke th])) :
    evF G fns (n + 1) 15 [W, .int i, SD, askD nu ke th] = some (.tup [.bl (!b), .int v], [W, .int i, SD, askD nu ke th]) := by
  rw [evF_at (fn := f_law_fits) rfl rfl]
  have q : P.ev .eq [.str "not", .str "not"] = some (.bl true) := rfl
  cases wz : W.fz <;> cases sz : SD.fz <;> simp [f_law_fits, startE, sms_nil, sms_cons, sm_asg, sm_sub, sm_expr, sm_iff, sm_for, sm_whil, sm_ret, sm_retn, sm_brk, sm_pass, ex_con, ex_glo, ex_kix, ex_dlit, ex_var, ex_vz, ex_pk, ex_mv, ex_cs, ex_prim, ex_ix, ex_tup, ex_lst, ex_nott, ex_ands, ex_ors, ex_ite, ex_chain, ex_call, ex_fld, ex_meth, ex_new, sm_sfld, sm_nev, ex_mut, ex_lc, exs_nil, exs_cons, it_seq, it_enum, enumT, nmbr, itemsT, it_rng1, it_rng2, gt, gets, R.get, Cn.d, bool1, tms, tm1, bindTg, endDs, lentOk, back, mutR, wrR, putR, M.ev, wipeE, setP, asSeq, asTup, hr, rf, hw, q, v_add, hc, wz, sz, sLine]
theorem lf_pair (n : Nat) (W SD : D) (RD : D) (nu ke th i u v : Int) (w a b : Bool) (rf : RD.fr = RD) (hr : evF G fns n 14 [SD, .int th] = some (RD, [SD, .int th])) (hw : ∀ e, gt e 0 = some W → ixR e (.sl 0) (.int i) = some (.tm (.str (pw w))))
    (hc : evF G fns n 15 [W, .int (i + 1), SD, askD nu ke th] = some (.tup [.bl a, .int u], [W, .int (i + 1), SD, askD nu ke th])) (hd : evF G fns n 15 [W, .int u, SD, askD nu ke th] = some (.tup [.bl b, .int v], [W, .int u, SD, askD nu ke th])) :
    evF G fns (n + 1) 15 [W, .int i, SD, askD nu ke th] = some (.tup [.bl (if w then a && b else a || b), .int v], [W, .int i, SD, askD nu ke th]) := by
  rw [evF_at (fn := f_law_fits) rfl rfl]
  have q1 : P.ev .eq [.str (pw w), .str "not"] = some (.bl false) := by cases w <;> kernel_rfl
  have q2 : P.ev .inn [.str (pw w), .tup [.str "both", .str "any"]] = some (.bl true) := by cases w <;> kernel_rfl
  have q3 : P.ev .eq [.str (pw w), .str "both"] = some (.bl w) := by cases w <;> kernel_rfl
  have x0 : ∀ (e : Env) (x y : Bool), ixR e (.tm (.ol [.bl x, .bl y])) (.int 0) = some (.tm (.bl x)) := fun e x y => rfl
  have x1 : ∀ (e : Env) (x y : Bool), ixR e (.tm (.ol [.bl x, .bl y])) (.int 1) = some (.tm (.bl y)) := fun e x y => rfl
  have b1 : P.ev .int_ [.bl w] = some (.int (if w then 1 else 0)) := by cases w <;> rfl
  generalize pw w = PW at *
  cases wz : W.fz <;> cases sz : SD.fz <;> cases w <;> cases a <;> cases b <;> simp [f_law_fits, startE, sms_nil, sms_cons, sm_asg, sm_sub, sm_expr, sm_iff, sm_for, sm_whil, sm_ret, sm_retn, sm_brk, sm_pass, ex_con, ex_glo, ex_kix, ex_dlit, ex_var, ex_vz, ex_pk, ex_mv, ex_cs, ex_prim, ex_ix, ex_tup, ex_lst, ex_nott, ex_ands, ex_ors, ex_ite, ex_chain, ex_call, ex_fld, ex_meth, ex_new, sm_sfld, sm_nev, ex_mut, ex_lc, exs_nil, exs_cons, it_seq, it_enum, enumT, nmbr, itemsT, it_rng1, it_rng2, gt, gets, R.get, Cn.d, bool1, tms, tm1, bindTg, endDs, lentOk, back, mutR, wrR, putR, M.ev, wipeE, setP, asSeq, asTup, hr, rf, hw, q1, q2, q3, b1, x0, x1, v_add, hc, hd, wz, sz, sLine]
theorem lf_mark (n : Nat) (W SD : D) (r : Sr) (nu ke th i : Int) (nm : Str) (hr : evF G fns n 14 [SD, .int th] = some (r.d, [SD, .int th])) (hw : ∀ e, gt e 0 = some W → ixR e (.sl 0) (.int i) = some (.tm (.str "mark"))) (hw2 : ∀ e, gt e 0 = some W → ixR e (.sl 0) (.int (i + 1)) = some (.tm (.str nm))) :
    evF G fns (n + 1) 15 [W, .int i, SD, askD nu ke th] = some (.tup [.bl (decide (0 ≤ th) && decide (nm ∈ r.ms)), .int (i + 2)], [W, .int i, SD, askD nu ke th]) := by
  rw [evF_at (fn := f_law_fits) rfl rfl]
  have q1 : P.ev .eq [.str "mark", .str "not"] = some (.bl false) := rfl
  have q2 : P.ev .inn [.str "mark", .tup [.str "both", .str "any"]] = some (.bl false) := rfl
  have q3 : P.ev .eq [.str "mark", .str "mark"] = some (.bl true) := rfl
  have rf : r.d.fr = r.d := D.fr_fz _ r.fz
  have i2 := r.i2 7
  have h2 := in_strs nm r.ms
  generalize r.d = RD at *
  by_cases c : 0 ≤ th
  · cases wz : W.fz <;> cases sz : SD.fz <;> simp [f_law_fits, startE, sms_nil, sms_cons, sm_asg, sm_sub, sm_expr, sm_iff, sm_for, sm_whil, sm_ret, sm_retn, sm_brk, sm_pass, ex_con, ex_glo, ex_kix, ex_dlit, ex_var, ex_vz, ex_pk, ex_mv, ex_cs, ex_prim, ex_ix, ex_tup, ex_lst, ex_nott, ex_ands, ex_ors, ex_ite, ex_chain, ex_call, ex_fld, ex_meth, ex_new, sm_sfld, sm_nev, ex_mut, ex_lc, exs_nil, exs_cons, it_seq, it_enum, enumT, nmbr, itemsT, it_rng1, it_rng2, gt, gets, R.get, Cn.d, bool1, tms, tm1, bindTg, endDs, lentOk, back, mutR, wrR, putR, M.ev, wipeE, setP, asSeq, asTup, hr, rf, hw, hw2, q1, q2, q3, i2, h2, v_add, v_ge, c, wz, sz, sLine]
  · cases wz : W.fz <;> cases sz : SD.fz <;> simp [f_law_fits, startE, sms_nil, sms_cons, sm_asg, sm_sub, sm_expr, sm_iff, sm_for, sm_whil, sm_ret, sm_retn, sm_brk, sm_pass, ex_con, ex_glo, ex_kix, ex_dlit, ex_var, ex_vz, ex_pk, ex_mv, ex_cs, ex_prim, ex_ix, ex_tup, ex_lst, ex_nott, ex_ands, ex_ors, ex_ite, ex_chain, ex_call, ex_fld, ex_meth, ex_new, sm_sfld, sm_nev, ex_mut, ex_lc, exs_nil, exs_cons, it_seq, it_enum, enumT, nmbr, itemsT, it_rng1, it_rng2, gt, gets, R.get, Cn.d, bool1, tms, tm1, bindTg, endDs, lentOk, back, mutR, wrR, putR, M.ev, wipeE, setP, asSeq, asTup, hr, rf, hw, hw2, q1, q2, q3, i2, h2, v_add, v_ge, c, wz, sz, sLine]
theorem lf_force (n : Nat) (W SD : D) (r : Sr) (nu ke th i m : Int) (z : Str) (hz : P.ev .int_ [.str z] = some (.int m)) (hr : evF G fns n 14 [SD, .int th] = some (r.d, [SD, .int th])) (hw : ∀ e, gt e 0 = some W → ixR e (.sl 0) (.int i) = some (.tm (.str "force"))) (hw2 : ∀ e, gt e 0 = some W → ixR e (.sl 0) (.int (i + 1)) = some (.tm (.str z))) :
    evF G fns (n + 1) 15 [W, .int i, SD, askD nu ke th] = some (.tup [.bl (decide (0 ≤ th) && decide (m ≤ r.fo)), .int (i + 2)], [W, .int i, SD, askD nu ke th]) := by
  rw [evF_at (fn := f_law_fits) rfl rfl]
  have q1 : P.ev .eq [.str "force", .str "not"] = some (.bl false) := rfl
  have q2 : P.ev .inn [.str "force", .tup [.str "both", .str "any"]] = some (.bl false) := rfl
  have q3 : P.ev .eq [.str "force", .str "mark"] = some (.bl false) := rfl
  have q4 : P.ev .eq [.str "force", .str "force"] = some (.bl true) := rfl
  have rf : r.d.fr = r.d := D.fr_fz _ r.fz
  have i3 := r.i3 7
  generalize r.d = RD at *
  by_cases c : 0 ≤ th
  · cases wz : W.fz <;> cases sz : SD.fz <;> simp [f_law_fits, startE, sms_nil, sms_cons, sm_asg, sm_sub, sm_expr, sm_iff, sm_for, sm_whil, sm_ret, sm_retn, sm_brk, sm_pass, ex_con, ex_glo, ex_kix, ex_dlit, ex_var, ex_vz, ex_pk, ex_mv, ex_cs, ex_prim, ex_ix, ex_tup, ex_lst, ex_nott, ex_ands, ex_ors, ex_ite, ex_chain, ex_call, ex_fld, ex_meth, ex_new, sm_sfld, sm_nev, ex_mut, ex_lc, exs_nil, exs_cons, it_seq, it_enum, enumT, nmbr, itemsT, it_rng1, it_rng2, gt, gets, R.get, Cn.d, bool1, tms, tm1, bindTg, endDs, lentOk, back, mutR, wrR, putR, M.ev, wipeE, setP, asSeq, asTup, hr, rf, hw, hw2, q1, q2, q3, q4, i3, hz, v_add, v_ge, c, wz, sz, sLine]
  · cases wz : W.fz <;> cases sz : SD.fz <;> simp [f_law_fits, startE, sms_nil, sms_cons, sm_asg, sm_sub, sm_expr, sm_iff, sm_for, sm_whil, sm_ret, sm_retn, sm_brk, sm_pass, ex_con, ex_glo, ex_kix, ex_dlit, ex_var, ex_vz, ex_pk, ex_mv, ex_cs, ex_prim, ex_ix, ex_tup, ex_lst, ex_nott, ex_ands, ex_ors, ex_ite, ex_chain, ex_call, ex_fld, ex_meth, ex_new, sm_sfld, sm_nev, ex_mut, ex_lc, exs_nil, exs_cons, it_seq, it_enum, enumT, nmbr, itemsT, it_rng1, it_rng2, gt, gets, R.get, Cn.d, bool1, tms, tm1, bindTg, endDs, lentOk, back, mutR, wrR, putR, M.ev, wipeE, setP, asSeq, asTup, hr, rf, hw, hw2, q1, q2, q3, q4, i3, hz, v_add, v_ge, c, wz, sz, sLine]
theorem lf_mine (n : Nat) (W SD : D) (r : Sr) (nu ke th i : Int) (hr : evF G fns n 14 [SD, .int th] = some (r.d, [SD, .int th])) (hw : ∀ e, gt e 0 = some W → ixR e (.sl 0) (.int i) = some (.tm (.str "mine"))) :
    evF G fns (n + 1) 15 [W, .int i, SD, askD nu ke th] = some (.tup [.bl (decide (r.kp = ke) || decide (th = -1 - ke)), .int (i + 1)], [W, .int i, SD, askD nu ke th]) := by
  rw [evF_at (fn := f_law_fits) rfl rfl]
  have q1 : P.ev .eq [.str "mine", .str "not"] = some (.bl false) := rfl
  have q2 : P.ev .inn [.str "mine", .tup [.str "both", .str "any"]] = some (.bl false) := rfl
  have q3 : P.ev .eq [.str "mine", .str "mark"] = some (.bl false) := rfl
  have q4 : P.ev .eq [.str "mine", .str "force"] = some (.bl false) := rfl
  have q5 : P.ev .eq [.str "mine", .str "mine"] = some (.bl true) := rfl
  have h2 : P.ev .neg [.int 1] = some (.int (-1)) := rfl
  have rf : r.d.fr = r.d := D.fr_fz _ r.fz
  have i1 := r.i1 7
  generalize r.d = RD at *
  by_cases c : r.kp = ke
  · cases wz : W.fz <;> cases sz : SD.fz <;> simp [f_law_fits, startE, sms_nil, sms_cons, sm_asg, sm_sub, sm_expr, sm_iff, sm_for, sm_whil, sm_ret, sm_retn, sm_brk, sm_pass, ex_con, ex_glo, ex_kix, ex_dlit, ex_var, ex_vz, ex_pk, ex_mv, ex_cs, ex_prim, ex_ix, ex_tup, ex_lst, ex_nott, ex_ands, ex_ors, ex_ite, ex_chain, ex_call, ex_fld, ex_meth, ex_new, sm_sfld, sm_nev, ex_mut, ex_lc, exs_nil, exs_cons, it_seq, it_enum, enumT, nmbr, itemsT, it_rng1, it_rng2, gt, gets, R.get, Cn.d, bool1, tms, tm1, bindTg, endDs, lentOk, back, mutR, wrR, putR, M.ev, wipeE, setP, asSeq, asTup, hr, rf, hw, q1, q2, q3, q4, q5, i1, h2, v_add, v_sub, v_eqi, c, wz, sz, sLine]
  · cases wz : W.fz <;> cases sz : SD.fz <;> simp [f_law_fits, startE, sms_nil, sms_cons, sm_asg, sm_sub, sm_expr, sm_iff, sm_for, sm_whil, sm_ret, sm_retn, sm_brk, sm_pass, ex_con, ex_glo, ex_kix, ex_dlit, ex_var, ex_vz, ex_pk, ex_mv, ex_cs, ex_prim, ex_ix, ex_tup, ex_lst, ex_nott, ex_ands, ex_ors, ex_ite, ex_chain, ex_call, ex_fld, ex_meth, ex_new, sm_sfld, sm_nev, ex_mut, ex_lc, exs_nil, exs_cons, it_seq, it_enum, enumT, nmbr, itemsT, it_rng1, it_rng2, gt, gets, R.get, Cn.d, bool1, tms, tm1, bindTg, endDs, lentOk, back, mutR, wrR, putR, M.ev, wipeE, setP, asSeq, asTup, hr, rf, hw, q1, q2, q3, q4, q5, i1, h2, v_add, v_sub, v_eqi, c, wz, sz, sLine]
theorem lf_last (n : Nat) (W SD : D) (r : Sr) (nu ke th i : Int) (all : Bool) (X : Str) (hr : evF G fns n 14 [SD, .int th] = some (r.d, [SD, .int th])) (hw : ∀ e, gt e 0 = some W → ixR e (.sl 0) (.int i) = some (.tm (.str X))) (hX : X = if all then "all" else "self") :
    evF G fns (n + 1) 15 [W, .int i, SD, askD nu ke th] = some (.tup [.bl (all || decide (th = nu)), .int (i + 1)], [W, .int i, SD, askD nu ke th]) := by
  rw [evF_at (fn := f_law_fits) rfl rfl]
  have q1 : P.ev .eq [.str X, .str "not"] = some (.bl false) := by rw [hX]; cases all <;> kernel_rfl
  have q2 : P.ev .inn [.str X, .tup [.str "both", .str "any"]] = some (.bl false) := by rw [hX]; cases all <;> kernel_rfl
  have q3 : P.ev .eq [.str X, .str "mark"] = some (.bl false) := by rw [hX]; cases all <;> kernel_rfl
  have q4 : P.ev .eq [.str X, .str "force"] = some (.bl false) := by rw [hX]; cases all <;> kernel_rfl
  have q5 : P.ev .eq [.str X, .str "mine"] = some (.bl false) := by rw [hX]; cases all <;> kernel_rfl
  have q6 : P.ev .eq [.str X, .str "all"] = some (.bl all) := by rw [hX]; cases all <;> kernel_rfl
  have rf : r.d.fr = r.d := D.fr_fz _ r.fz
  generalize r.d = RD at *
  clear hX
  cases wz : W.fz <;> cases sz : SD.fz <;> cases all <;> simp [f_law_fits, startE, sms_nil, sms_cons, sm_asg, sm_sub, sm_expr, sm_iff, sm_for, sm_whil, sm_ret, sm_retn, sm_brk, sm_pass, ex_con, ex_glo, ex_kix, ex_dlit, ex_var, ex_vz, ex_pk, ex_mv, ex_cs, ex_prim, ex_ix, ex_tup, ex_lst, ex_nott, ex_ands, ex_ors, ex_ite, ex_chain, ex_call, ex_fld, ex_meth, ex_new, sm_sfld, sm_nev, ex_mut, ex_lc, exs_nil, exs_cons, it_seq, it_enum, enumT, nmbr, itemsT, it_rng1, it_rng2, gt, gets, R.get, Cn.d, bool1, tms, tm1, bindTg, endDs, lentOk, back, mutR, wrR, putR, M.ev, wipeE, setP, asSeq, asTup, hr, rf, hw, q1, q2, q3, q4, q5, q6, v_add, v_eqi, wz, sz, sLine]
theorem At.ix {ws : List Str} {j : Nat} {x : Str} {i : Int} (hi : i = j) (h : ws[j]? = some x) (o : Bool) : ∀ e, gt e 0 = some (.nd .lst o (ws.map .str)) → ixR e (.sl 0) (.int i) = some (.tm (.str x)) := fun e he => ixK (.inl rfl) he i j hi (.str x) (by rw [List.getElem?_map, h]; rfl) rfl
theorem int_num {m : Nat} (h : m < 1000) : P.ev .int_ [.str (numS m)] = some (.int (m : Nat)) := by
  have hl := (num_ok h).2
  show (if (numS m).length ≤ 640 then (PySem.intText? (numS m)).map D.int else none) = _
  rw [if_pos (by omega), num_reads h]; rfl
/-- things of the sight, or players -/
def ThOk (si : List Sr) (th : Int) : Prop := (0 ≤ th ∧ ∃ r, rowS si th = some r) ∨ (th < 0 ∧ rowS si th = none)
theorem lfits (si : List Sr) (o o' : Bool) (nu ke th : Int) (ke0 : 0 ≤ ke) (ok : ThOk si th) (ws : List Str) : ∀ (w : Wh), w.Ok → ∀ (n : Nat), w.dep + 2 ≤ n → ∀ (i v : Int) (j : Nat), i = j → At ws j w.words → v = i + w.words.length → evF G fns n 15 [.nd .lst o' (ws.map .str), .int i, SI o si, askD nu ke th] = some (.tup [.bl (fits si nu ke th w), .int v], [.nd .lst o' (ws.map .str), .int i, SI o si, askD nu ke th]) := fun w => by
  have hr := fun n hn => lrow' si o n hn th
  have rf : (rowL si th).d.fr = (rowL si th).d := D.fr_fz _ (rowL si th).fz
  induction w with
  | all =>
    intro wok n hn i v j hi ha hv
    obtain ⟨n, rfl⟩ : ∃ m, n = m + 1 := ⟨n - 1, by omega⟩
    have hv : v = i + 1 := hv
    rw [hv]
    exact lf_last n _ _ _ nu ke th i true "all" (hr n (by omega)) (At.ix hi ha.head o') rfl
  | self =>
    intro wok n hn i v j hi ha hv
    obtain ⟨n, rfl⟩ : ∃ m, n = m + 1 := ⟨n - 1, by omega⟩
    have hv : v = i + 1 := hv
    rw [hv]
    have := lf_last n _ _ _ nu ke th i false "self" (hr n (by omega)) (At.ix hi ha.head o') rfl
    rw [Bool.false_or] at this
    exact this
  | mine =>
    intro wok n hn i v j hi ha hv
    obtain ⟨n, rfl⟩ : ∃ m, n = m + 1 := ⟨n - 1, by omega⟩
    have hv : v = i + 1 := hv
    rw [hv]
    have e : fits si nu ke th .mine = (decide ((rowL si th).kp = ke) || decide (th = -1 - ke)) := by
      rcases ok with ⟨h0, r, h⟩ | ⟨h0, h⟩
      · show fitsR (rowS si th) nu ke th .mine = _
        unfold rowL
        rw [h]
        have : decide (th = -1 - ke) = false := decide_eq_false (by omega)
        rw [this, Bool.or_false]
        rfl
      · show fitsR (rowS si th) nu ke th .mine = _
        unfold rowL
        rw [h]
        have : decide ((dfR).kp = ke) = false := decide_eq_false (by show ¬ (-9 : Int) = ke; omega)
        show decide (th = -1 - ke) = (decide (dfR.kp = ke) || _)
        rw [this, Bool.false_or]
    rw [e]
    exact lf_mine n _ _ _ nu ke th i (hr n (by omega)) (At.ix hi ha.head o')
  | mark nm =>
    intro wok n hn i v j hi ha hv
    obtain ⟨n, rfl⟩ : ∃ m, n = m + 1 := ⟨n - 1, by omega⟩
    have hv : v = i + 2 := hv
    rw [hv]
    have e : fits si nu ke th (.mark nm) = (decide (0 ≤ th) && decide (nm ∈ (rowL si th).ms)) := by
      rcases ok with ⟨h0, r, h⟩ | ⟨h0, h⟩
      · show fitsR (rowS si th) nu ke th (.mark nm) = _
        unfold rowL
        rw [h, decide_eq_true h0, Bool.true_and]
        rfl
      · show fitsR (rowS si th) nu ke th (.mark nm) = _
        rw [h, decide_eq_false (by omega), Bool.false_and]
        rfl
    rw [e]
    exact lf_mark n _ _ _ nu ke th i nm (hr n (by omega)) (At.ix hi ha.head o') (At.ix (by omega) ha.tail.head o')
  | force m =>
    intro wok n hn i v j hi ha hv
    obtain ⟨n, rfl⟩ : ∃ m, n = m + 1 := ⟨n - 1, by omega⟩
    have hv : v = i + 2 := hv
    rw [hv]
    have e : fits si nu ke th (.force m) = (decide (0 ≤ th) && decide ((m : Int) ≤ (rowL si th).fo)) := by
      rcases ok with ⟨h0, r, h⟩ | ⟨h0, h⟩
      · show fitsR (rowS si th) nu ke th (.force m) = _
        unfold rowL
        rw [h, decide_eq_true h0, Bool.true_and]
        rfl
      · show fitsR (rowS si th) nu ke th (.force m) = _
        rw [h, decide_eq_false (by omega), Bool.false_and]
        rfl
    rw [e]
    have wok : m < 1000 := wok
    exact lf_force n _ _ _ nu ke th i m (numS m) (int_num wok) (hr n (by omega)) (At.ix hi ha.head o') (At.ix (by omega) ha.tail.head o')
  | not a ih =>
    intro wok n hn i v j hi ha hv
    obtain ⟨n, rfl⟩ : ∃ m, n = m + 1 := ⟨n - 1, by omega⟩
    have hd : (Wh.not a).dep = 1 + a.dep := rfl
    have hl : (Wh.not a).words = ("not" : Str) :: a.words := rfl
    rw [hl] at ha hv
    exact lf_not n _ _ _ nu ke th i v _ rf (hr n (by omega)) (At.ix hi ha.head o') (ih wok n (by omega) (i + 1) v (j + 1) (by omega) ha.tail (by rw [hv]; simp; omega))
  | pair w a b iha ihb =>
    intro wok n hn i v j hi ha hv
    obtain ⟨n, rfl⟩ : ∃ m, n = m + 1 := ⟨n - 1, by omega⟩
    have hd : (Wh.pair w a b).dep = 1 + max a.dep b.dep := rfl
    have hl : (Wh.pair w a b).words = pw w :: (a.words ++ b.words) := rfl
    rw [hl] at ha hv
    have ht := ha.tail
    have h1 := iha wok.1 n (by omega) (i + 1) (i + 1 + a.words.length) (j + 1) (by omega) ht.left rfl
    have h2 := ihb wok.2 n (by omega) (i + 1 + a.words.length) v (j + 1 + a.words.length) (by omega) ht.right (by rw [hv]; simp; omega)
    exact lf_pair n _ _ _ nu ke th i _ v w _ _ rf (hr n (by omega)) (At.ix hi ha.head o') h1 h2
/-! ### the sight of the law -/
theorem sg_c (C : Cl) (T N S8 : D) (v2 v3 v5 v6 v8 v10 : Option D) (c z p : Int) (x : Str) (hi : ∀ e : Env, ixR e (.tm (.tup [.int 1, .int 2, .int 4, .int 8, .int 16, .int 32, .int 64, .int 128])) (.int z) = some (.tm (.int p))) (p0 : 0 < p) (p1 : p < 1073741824) (hj : ∀ e, gt e 4 = some S8 → ixR e (.sl 4) (.int z) = some (.tm (.str x))) :
    lcB G C (.nm 9) f_law_sight_c0 f_law_sight_l0 (.int z) [some T, some N, v2, v3, some S8, v5, v6, some (.int c), v8, none, v10] = some (if c / p % 2 = 1 then some (.str x) else none, [some T, some N, v2, v3, some S8, v5, v6, some (.int c), v8, none, v10]) := by
  by_cases q : c / p % 2 = 1
  · simp [lcB, f_law_sight_c0, f_law_sight_l0, sms_nil, sms_cons, sm_asg, sm_sub, sm_expr, sm_iff, sm_for, sm_whil, sm_ret, sm_retn, sm_brk, sm_pass, ex_con, ex_glo, ex_kix, ex_dlit, ex_var, ex_vz, ex_pk, ex_mv, ex_cs, ex_prim, ex_ix, ex_tup, ex_lst, ex_nott, ex_ands, ex_ors, ex_ite, ex_chain, ex_call, ex_fld, ex_meth, ex_new, sm_sfld, sm_nev, ex_mut, ex_lc, exs_nil, exs_cons, it_seq, it_enum, enumT, nmbr, itemsT, it_rng1, it_rng2, gt, gets, R.get, Cn.d, bool1, tms, tm1, bindTg, endDs, lentOk, back, mutR, wrR, putR, M.ev, wipeE, setP, asSeq, asTup, v_fdiv, v_mod, v_eqi, hi, p0, p1, hj, q, sLine]
  · simp [lcB, f_law_sight_c0, f_law_sight_l0, sms_nil, sms_cons, sm_asg, sm_sub, sm_expr, sm_iff, sm_for, sm_whil, sm_ret, sm_retn, sm_brk, sm_pass, ex_con, ex_glo, ex_kix, ex_dlit, ex_var, ex_vz, ex_pk, ex_mv, ex_cs, ex_prim, ex_ix, ex_tup, ex_lst, ex_nott, ex_ands, ex_ors, ex_ite, ex_chain, ex_call, ex_fld, ex_meth, ex_new, sm_sfld, sm_nev, ex_mut, ex_lc, exs_nil, exs_cons, it_seq, it_enum, enumT, nmbr, itemsT, it_rng1, it_rng2, gt, gets, R.get, Cn.d, bool1, tms, tm1, bindTg, endDs, lentOk, back, mutR, wrR, putR, M.ev, wipeE, setP, asSeq, asTup, v_fdiv, v_mod, v_eqi, hi, p0, p1, hj, q, sLine]
def pw8 (j : Nat) : Int := ([1, 2, 4, 8, 16, 32, 64, 128] : List Int).getD j 1
theorem pw8_ix (j : Nat) (h : j < 8) (z : Int) (hz : z = j) : (∀ e : Env, ixR e (.tm (.tup [.int 1, .int 2, .int 4, .int 8, .int 16, .int 32, .int 64, .int 128])) (.int z) = some (.tm (.int (pw8 j)))) ∧ 0 < pw8 j ∧ pw8 j < 1073741824 := by
  have : j = 0 ∨ j = 1 ∨ j = 2 ∨ j = 3 ∨ j = 4 ∨ j = 5 ∨ j = 6 ∨ j = 7 := by omega
  rcases this with rfl | rfl | rfl | rfl | rfl | rfl | rfl | rfl <;> subst hz <;> exact ⟨fun e => rfl, by decide, by decide⟩
theorem sg_marks (C : Cl) (T N : D) (SS : List Str) (hS : SS.length ≤ 8) (v2 v3 v5 v6 v8 v10 : Option D) (c : Int) : ∃ ms : List Str, lcL (lcB G C (.nm 9) f_law_sight_c0 f_law_sight_l0) ((List.range' 0 SS.length).map fun k : Nat => D.int (k : Int)) [] [some T, some N, v2, v3, some (wl SS), v5, v6, some (.int c), v8, none, v10] = some (ms.map .str, [some T, some N, v2, v3, some (wl SS), v5, v6, some (.int c), v8, none, v10]) := by
  have := lcL_fil (f := lcB G C (.nm 9) f_law_sight_c0 f_law_sight_l0) (e := [some T, some N, v2, v3, some (wl SS), v5, v6, some (.int c), v8, none, v10]) (fun j : Nat => D.int (j : Int)) (fun j : Nat => D.str (SS.getD j "")) (fun j => decide (c / pw8 j % 2 = 1)) (List.range' 0 SS.length) [] (fun j hj => by
    have hj : j < SS.length := by have := List.mem_range'_1.mp hj; omega
    obtain ⟨z, hz⟩ : ∃ z : Int, z = j := ⟨_, rfl⟩
    rw [← hz]
    obtain ⟨h1, h2, h3⟩ := pw8_ix j (by omega) z hz
    have hx : SS[j]? = some (SS.getD j "") := by rw [List.getElem?_eq_getElem hj, List.getD_eq_getElem?_getD, List.getElem?_eq_getElem hj]; rfl
    have := sg_c C T N (wl SS) v2 v3 v5 v6 v8 v10 c z (pw8 j) (SS.getD j "") h1 h2 h3 (fun e he => ix_wl hz hx 4 e he)
    rw [this]
    by_cases q : c / pw8 j % 2 = 1
    · rw [if_pos q, decide_eq_true q]; rfl
    · rw [if_neg q, decide_eq_false q]; rfl) (by simp [sLine]; omega)
  rw [List.nil_append] at this
  refine ⟨((List.range' 0 SS.length).filter fun j => decide (c / pw8 j % 2 = 1)).map fun j => SS.getD j "", ?_⟩
  rw [this, List.map_map]
  rfl
theorem tuple_wl (ms : List Str) : P.ev .tuple_ [.nd .lst true (ms.map .str)] = some (.tup (ms.map .str)) := by
  show (if fzs (ms.map D.str) then some (D.tup (ms.map D.str)) else none) = _
  rw [if_pos (wl_fz ms)]
theorem sg_b (n : Nat) (T0 T1 T2 T3 T4 T5 T6 T7 N S8 MS : D) (k kb nu z1 z2 c f1 f2 s1 m f L : Int) (RG ds A : List D) (x5 x6 x7 x8 x10 : Option D) (hk : P.ev .int_ [.bl (decide (0 < k))] = some (.int kb)) (h1 : evF G fns n 9 [T0, .int 3] = some (.int z1, [T1, .int 3])) (h2 : evF G fns n 9 [T1, .int 4] = some (.int z2, [T2, .int 4])) (h3 : evF G fns n 9 [T2, .int 256] = some (.int c, [T3, .int 256]))
    (hL : P.ev .len [S8] = some (.int L)) (hr : rngL 0 L = some RG) (hlc : lcL (lcB G (evF G fns n) (.nm 9) f_law_sight_c0 f_law_sight_l0) RG [] [some T3, some N, some (.nd .lst true ds), some (.int (nu + z1 + kb)), some S8, some (.int k), some (.int z2), some (.int c), x8, none, x10] = some (A, [some T3, some N, some (.nd .lst true ds), some (.int (nu + z1 + kb)), some S8, some (.int k), some (.int z2), some (.int c), x8, none, x10])) (tu : P.ev .tuple_ [.nd .lst true A] = some MS) (mf : MS.fr = MS)
    (h4 : evF G fns n 9 [T3, .int 1005] = some (.int f1, [T4, .int 1005])) (h5 : evF G fns n 9 [T4, .int 8] = some (.int f2, [T5, .int 8])) (h6 : evF G fns n 9 [T5, .int 2] = some (.int s1, [T6, .int 2])) (hx : ∀ e : Env, ixR e (.tm (.ol [.int (f1 - 3), .int (f2 - 1)])) (.int s1) = some (.tm (.int f)))
    (h7 : evF G fns n 9 [T6, .int 2] = some (.int m, [T7, .int 2])) (ap : ∀ d, M.ev .append ds [d] = some (ds ++ [d], .non)) :
    forB G (evF G fns n) (.nm 5) f_law_sight_b0 (.int k) [some T0, some N, some (.nd .lst true ds), some (.int nu), some S8, x5, x6, x7, x8, none, x10] = some (.nx (if nu + z1 + kb < 16 then [some T7, some N, some (.nd .lst true (ds ++ [.tup [.int (nu + z1 + kb), .int z2, MS, .int f, .bl (decide (m = 1))]])), some (.int (nu + z1 + kb)), some S8, some (.int k), some (.int z2), some (.int c), some MS, none, some (.int f)] else [some T6, some N, some (.nd .lst true ds), some (.int (nu + z1 + kb)), some S8, some (.int k), some (.int z2), some (.int c), some MS, none, some (.int f)])) := by
  by_cases q : nu + z1 + kb < 16
  · simp [forB, f_law_sight_b0, sms_nil, sms_cons, sm_asg, sm_sub, sm_expr, sm_iff, sm_for, sm_whil, sm_ret, sm_retn, sm_brk, sm_pass, ex_con, ex_glo, ex_kix, ex_dlit, ex_var, ex_vz, ex_pk, ex_mv, ex_cs, ex_prim, ex_ix, ex_tup, ex_lst, ex_nott, ex_ands, ex_ors, ex_ite, ex_chain, ex_call, ex_fld, ex_meth, ex_new, sm_sfld, sm_nev, ex_mut, ex_lc, exs_nil, exs_cons, it_seq, it_enum, enumT, nmbr, itemsT, it_rng1, it_rng2, gt, gets, R.get, Cn.d, bool1, tms, tm1, bindTg, endDs, lentOk, back, mutR, wrR, putR, wipeE, setP, asSeq, asTup, h1, h2, h3, hk, v_add, v_gt, v_sub, v_lt, v_eqi, hL, hr, hlc, tu, mf, h4, h5, h6, hx, h7, q, ap, sLine]
  · simp [forB, f_law_sight_b0, sms_nil, sms_cons, sm_asg, sm_sub, sm_expr, sm_iff, sm_for, sm_whil, sm_ret, sm_retn, sm_brk, sm_pass, ex_con, ex_glo, ex_kix, ex_dlit, ex_var, ex_vz, ex_pk, ex_mv, ex_cs, ex_prim, ex_ix, ex_tup, ex_lst, ex_nott, ex_ands, ex_ors, ex_ite, ex_chain, ex_call, ex_fld, ex_meth, ex_new, sm_sfld, sm_nev, ex_mut, ex_lc, exs_nil, exs_cons, it_seq, it_enum, enumT, nmbr, itemsT, it_rng1, it_rng2, gt, gets, R.get, Cn.d, bool1, tms, tm1, bindTg, endDs, lentOk, back, mutR, wrR, putR, wipeE, setP, asSeq, asTup, h1, h2, h3, hk, v_add, v_gt, v_sub, v_lt, v_eqi, hL, hr, hlc, tu, mf, h4, h5, h6, hx, h7, q, ap, sLine]
theorem gotS_len8 (ys : List Str) : (sortS (gotS ys [])).length ≤ ys.length := by
  rw [(sortS_perm _).length_eq]
  have := Tku.gotS_len ys []
  simpa using this
theorem sg_for (k : Nat) (ns : List Int) (hl : ns.length ≤ 63) (N : D) (SS : List Str) (hS : SS.length ≤ 8) : ∀ (ks : List Int) (a nu : Int) (acc : List Sr) (h0 : 0 ≤ a) (h1 : a + 10 * (ks.length : Int) < 90000) (n0 : 0 ≤ nu) (ok : ∀ s ∈ acc, 0 ≤ s.no) (hd : acc.length + ks.length < 1000) (x5 x6 x7 x8 x10 : Option D), ∃ (sj : List Sr) (a2 nu2 : Int) (y5 y6 y7 y8 y10 : Option D), (∀ s ∈ sj, 0 ≤ s.no) ∧ a ≤ a2 ∧ a2 ≤ a + 10 * (ks.length : Int) ∧ sj.length ≤ acc.length + ks.length ∧
    forL (forB G (evF G fns (k + 1)) (.nm 5) f_law_sight_b0) (ks.map .int) [some (stD ns a), some N, some (.nd .lst true (acc.map Sr.d)), some (.int nu), some (wl SS), x5, x6, x7, x8, none, x10] = some (.nx [some (stD ns a2), some N, some (.nd .lst true (sj.map Sr.d)), some (.int nu2), some (wl SS), y5, y6, y7, y8, none, y10])
  | [], a, nu, acc, h0, h1, n0, ok, hd, x5, x6, x7, x8, x10 => ⟨acc, a, nu, x5, x6, x7, x8, x10, ok, by omega, by simp, by simp, rfl⟩
  | z :: ks, a, nu, acc, h0, h1, n0, ok, hd, x5, x6, x7, x8, x10 => by
    simp only [List.length_cons] at h1 hd
    obtain ⟨z1, b1, c1, t1⟩ := take_ev k ns hl a 3 h0 (by omega) (by omega)
    obtain ⟨z2, b2, c2, t2⟩ := take_ev k ns hl (a + 1) 4 (by omega) (by omega) (by omega)
    obtain ⟨c, b3, c3, t3⟩ := take_ev k ns hl (a + 1 + 1) 256 (by omega) (by omega) (by omega)
    obtain ⟨f1, b4, c4, t4⟩ := take_ev k ns hl (a + 1 + 1 + 1) 1005 (by omega) (by omega) (by omega)
    obtain ⟨f2, b5, c5, t5⟩ := take_ev k ns hl (a + 1 + 1 + 1 + 1) 8 (by omega) (by omega) (by omega)
    obtain ⟨s1, b6, c6, t6⟩ := take_ev k ns hl (a + 1 + 1 + 1 + 1 + 1) 2 (by omega) (by omega) (by omega)
    obtain ⟨m, b7, c7, t7⟩ := take_ev k ns hl (a + 1 + 1 + 1 + 1 + 1 + 1) 2 (by omega) (by omega) (by omega)
    obtain ⟨kb, kb0, hk⟩ : ∃ kb : Int, 0 ≤ kb ∧ P.ev .int_ [.bl (decide (0 < z))] = some (.int kb) := by
      cases decide (0 < z)
      · exact ⟨0, by omega, rfl⟩
      · exact ⟨1, by omega, rfl⟩
    obtain ⟨f, hx⟩ : ∃ f : Int, ∀ e : Env, ixR e (.tm (.ol [.int (f1 - 3), .int (f2 - 1)])) (.int s1) = some (.tm (.int f)) := by
      have : s1 = 0 ∨ s1 = 1 := by omega
      rcases this with rfl | rfl
      · exact ⟨_, fun e => rfl⟩
      · exact ⟨_, fun e => rfl⟩
    obtain ⟨ms, hm⟩ := sg_marks (evF G fns (k + 1)) (stD ns (a + 1 + 1 + 1)) N SS hS (some (.nd .lst true (acc.map Sr.d))) (some (.int (nu + z1 + kb))) (some (.int z)) (some (.int z2)) x8 x10 c
    have hL : P.ev .len [wl SS] = some (.int SS.length) := by rw [wl, v_lenl, List.length_map]
    have b := sg_b (k + 1) _ _ _ _ _ _ _ _ N (wl SS) (.tup (ms.map .str)) z kb nu z1 z2 c f1 f2 s1 m f SS.length _ (acc.map Sr.d) (ms.map .str) x5 x6 x7 x8 x10 hk t1 t2 t3 hL (rngL_r' rfl (by omega)) hm (tuple_wl ms) (by simp [frs_strs]) t4 t5 t6 hx t7 (app_ok (by simp; omega))
    rw [List.map_cons]
    by_cases q : nu + z1 + kb < 16
    · rw [if_pos q] at b
      have e : acc.map Sr.d ++ [D.tup [.int (nu + z1 + kb), .int z2, .tup (ms.map .str), .int f, .bl (decide (m = 1))]] = (acc ++ [(⟨nu + z1 + kb, z2, ms, f, decide (m = 1)⟩ : Sr)]).map Sr.d := by rw [List.map_append]; rfl
      rw [e] at b
      obtain ⟨sj, a2, nu2, y5, y6, y7, y8, y10, g1, g2, g3, g4, g5⟩ := sg_for k ns hl N SS hS ks (a + 1 + 1 + 1 + 1 + 1 + 1 + 1) (nu + z1 + kb) (acc ++ [(⟨nu + z1 + kb, z2, ms, f, decide (m = 1)⟩ : Sr)]) (by omega) (by omega) (by omega) (fun s hs => by
        rcases List.mem_append.mp hs with h | h
        · exact ok s h
        · rw [List.mem_singleton.mp h]; show 0 ≤ nu + z1 + kb; omega) (by simp; omega) (some (.int z)) (some (.int z2)) (some (.int c)) (some (.tup (ms.map .str))) (some (.int f))
      refine ⟨sj, a2, nu2, y5, y6, y7, y8, y10, g1, by omega, by simp only [List.length_cons]; omega, by simp at g4 ⊢; omega, ?_⟩
      simp only [forL, b]
      exact g5
    · rw [if_neg q] at b
      obtain ⟨sj, a2, nu2, y5, y6, y7, y8, y10, g1, g2, g3, g4, g5⟩ := sg_for k ns hl N SS hS ks (a + 1 + 1 + 1 + 1 + 1 + 1) (nu + z1 + kb) acc (by omega) (by omega) (by omega) ok (by omega) (some (.int z)) (some (.int z2)) (some (.int c)) (some (.tup (ms.map .str))) (some (.int f))
      refine ⟨sj, a2, nu2, y5, y6, y7, y8, y10, g1, by omega, by simp only [List.length_cons]; omega, by simp at g4 ⊢; omega, ?_⟩
      simp only [forL, b]
      exact g5
theorem sg1 (n : Nat) (T0 T1 T2 N A S8 : D) (m : Int) (RG DS : List D) (y3 y5 y6 y7 y8 y10 : Option D) (had : P.ev .add [N, .nd .lst true [.str "all", .str "do", .str "not", .str "mark"]] = some A) (hs : P.ev .ssort [A] = some S8) (h1 : evF G fns n 9 [T0, .int 7] = some (.int m, [T1, .int 7])) (rg : rngL 0 m = some RG)
    (hf : forL (forB G (evF G fns n) (.nm 5) f_law_sight_b0) RG [some T1, some N, some (.nd .lst true []), some (.int 0), some S8, none, none, none, none, none, none] = some (.nx [some T2, some N, some (.nd .lst true DS), y3, some S8, y5, y6, y7, y8, none, y10])) (df : frs DS = DS) :
    evF G fns (n + 1) 13 [T0, N] = some (.nd .lst false DS, [T2, N]) := by
  rw [evF_at (fn := f_law_sight) rfl rfl]
  simp [f_law_sight, startE, sms_nil, sms_cons, sm_asg, sm_sub, sm_expr, sm_iff, sm_for, sm_whil, sm_ret, sm_retn, sm_brk, sm_pass, ex_con, ex_glo, ex_kix, ex_dlit, ex_var, ex_vz, ex_pk, ex_mv, ex_cs, ex_prim, ex_ix, ex_tup, ex_lst, ex_nott, ex_ands, ex_ors, ex_ite, ex_chain, ex_call, ex_fld, ex_meth, ex_new, sm_sfld, sm_nev, ex_mut, ex_lc, exs_nil, exs_cons, it_seq, it_enum, enumT, nmbr, itemsT, it_rng1, it_rng2, gt, gets, R.get, Cn.d, bool1, tms, tm1, bindTg, endDs, lentOk, back, mutR, wrR, putR, M.ev, wipeE, setP, asSeq, asTup, had, hs, h1, rg, hf, df, sLine]
theorem sight' (k : Nat) (ns : List Int) (hl : ns.length ≤ 63) (xs : List Str) (hx : xs.length = 4) (a : Int) (h0 : 0 ≤ a) (h1 : a < 80000) : ∃ (sj : List Sr) (a2 : Int), (∀ s ∈ sj, 0 ≤ s.no) ∧ a ≤ a2 ∧ a2 ≤ a + 80 ∧ sj.length ≤ 7 ∧ evF G fns (k + 2) 13 [stD ns a, nfl xs] = some (SI false sj, [stD ns a2, nfl xs]) := by
  obtain ⟨m, m0, m1, t1⟩ := take_ev k ns hl a 7 h0 (by omega) (by omega)
  obtain ⟨j, hj⟩ : ∃ j : Nat, m = j := ⟨m.toNat, by omega⟩
  have hS : (sortS (gotS (xs ++ (["all", "do", "not", "mark"] : List Str)) [])).length ≤ 8 := by
    have := gotS_len8 (xs ++ (["all", "do", "not", "mark"] : List Str))
    simp at this
    omega
  have had : P.ev .add [nfl xs, .nd .lst true [.str "all", .str "do", .str "not", .str "mark"]] = some (.nd .lst true ((xs ++ (["all", "do", "not", "mark"] : List Str)).map .str)) := by
    rw [nfl, v_addl, if_pos]
    · simp
    · simp [wl_fz, sLine]; omega
  have so : P.ev .ssort [.nd .lst true ((xs ++ (["all", "do", "not", "mark"] : List Str)).map .str)] = some (wl (sortS (gotS (xs ++ (["all", "do", "not", "mark"] : List Str)) []))) := by
    have e : strsOf ((xs ++ (["all", "do", "not", "mark"] : List Str)).map D.str) = some (xs ++ (["all", "do", "not", "mark"] : List Str)) := strsOf_wl _
    simp only [P.ev, asSeq, e]
    rw [if_pos (by simp; omega)]
    rfl
  obtain ⟨sj, a2, nu2, y5, y6, y7, y8, y10, g1, g2, g3, g4, g5⟩ := sg_for k ns hl (nfl xs) _ hS ((List.range' 0 j).map fun i : Nat => (i : Int)) (a + 1) 0 [] (by omega) (by simp; omega) (by omega) (by simp) (by simp; omega) none none none none none
  simp only [List.length_map, List.length_range', List.length_nil] at g3 g4
  refine ⟨sj, a2, g1, by omega, by omega, by omega, ?_⟩
  rw [List.map_map] at g5
  exact sg1 (k + 1) _ _ _ _ _ _ m _ _ _ y5 y6 y7 y8 y10 had so t1 (rngL_r' hj (by omega)) g5 (frs_fz _ (srs_fz sj))
/-! ### k03's law -/
theorem find_mem {s : Sr} {si : List Sr} (h : s ∈ si) : ∃ o, rowS si s.no = some o := by
  have : (si.find? fun a => decide (a.no = s.no)).isSome = true := List.find?_isSome.mpr ⟨s, h, decide_eq_true rfl⟩
  exact Option.isSome_iff_exists.mp this
theorem find_neg {si : List Sr} (h : ∀ s ∈ si, 0 ≤ s.no) {t : Int} (ht : t < 0) : rowS si t = none := List.find?_eq_none.mpr fun s hs => by
  have := h s hs
  simp
  omega
theorem right_b (n : Nat) (W SD : D) (ci f : Nat) (ns : List Str) (xs : List D) (nu ke th v : Int) (b : Bool) (x5 x6 x7 : Option D) (h1 : ("fits" : Str) ∉ ns) (h2 : G.meths ci "fits" = some f) (hc : evF G fns n f [.nd (.ins ci ns) false xs, SD, .int nu, .int ke, .int th] = some (.bl b, [.nd (.ins ci ns) false xs, SD, .int nu, .int ke, .int th]))
    (hl : evF G fns n 15 [W, .int 0, SD, askD nu ke th] = some (.tup [.bl b, .int v], [W, .int 0, SD, askD nu ke th])) :
    forB G (evF G fns n) (.nm 5) f_law_right_b0 (.int th) [some (.nd (.ins ci ns) false xs), some W, some SD, some (.int nu), some (.int ke), x5, x6, x7] = some (.nx [some (.nd (.ins ci ns) false xs), some W, some SD, some (.int nu), some (.int ke), some (.int th), x6, some (.bl b)]) := by
  have i0 : ∀ e : Env, ixR e (.tm (.tup [.bl b, .int v])) (.int 0) = some (.tm (.bl b)) := fun e => rfl
  cases xz : fzs xs <;> cases wz : W.fz <;> cases sz : SD.fz <;> simp [forB, f_law_right_b0, sms_nil, sms_cons, sm_asg, sm_sub, sm_expr, sm_iff, sm_for, sm_whil, sm_ret, sm_retn, sm_brk, sm_pass, ex_con, ex_glo, ex_kix, ex_dlit, ex_var, ex_vz, ex_pk, ex_mv, ex_cs, ex_prim, ex_ix, ex_tup, ex_lst, ex_nott, ex_ands, ex_ors, ex_ite, ex_chain, ex_call, ex_fld, ex_meth, ex_new, sm_sfld, sm_nev, ex_mut, ex_lc, exs_nil, exs_cons, it_seq, it_enum, enumT, nmbr, itemsT, it_rng1, it_rng2, gt, gets, R.get, Cn.d, bool1, tms, tm1, bindTg, endDs, lentOk, back, mutR, wrR, putR, M.ev, wipeE, setP, asSeq, asTup, h1, h2, hc, hl, i0, v_isiB, v_neb, D.isTy, xz, wz, sz, sLine]
theorem right_for (n : Nat) (W SD : D) (ci f : Nat) (ns : List Str) (xs : List D) (nu ke : Int) (g : Int → Bool) (v : Int → Int) (h1 : ("fits" : Str) ∉ ns) (h2 : G.meths ci "fits" = some f) : ∀ (ths : List Int) (_ : ∀ th ∈ ths, evF G fns n f [.nd (.ins ci ns) false xs, SD, .int nu, .int ke, .int th] = some (.bl (g th), [.nd (.ins ci ns) false xs, SD, .int nu, .int ke, .int th]) ∧ evF G fns n 15 [W, .int 0, SD, askD nu ke th] = some (.tup [.bl (g th), .int (v th)], [W, .int 0, SD, askD nu ke th])) (x5 x6 x7 : Option D), ∃ y5 y7 : Option D,
    forL (forB G (evF G fns n) (.nm 5) f_law_right_b0) (ths.map .int) [some (.nd (.ins ci ns) false xs), some W, some SD, some (.int nu), some (.int ke), x5, x6, x7] = some (.nx [some (.nd (.ins ci ns) false xs), some W, some SD, some (.int nu), some (.int ke), y5, x6, y7])
  | [], _, x5, x6, x7 => ⟨x5, x7, rfl⟩
  | th :: ths, h, x5, x6, x7 => by
    obtain ⟨hc, hl⟩ := h th List.mem_cons_self
    have b := right_b n W SD ci f ns xs nu ke th (v th) (g th) x5 x6 x7 h1 h2 hc hl
    obtain ⟨y5, y7, c⟩ := right_for n W SD ci f ns xs nu ke g v h1 h2 ths (fun t ht => h t (List.mem_cons_of_mem _ ht)) (some (.int th)) x6 (some (.bl (g th)))
    refine ⟨y5, y7, ?_⟩
    rw [List.map_cons]
    simp only [forL, b]
    exact c
theorem right_c (C : Cl) (SD RD : D) (v0 v1 v3 v4 v5 v7 : Option D) (no : Int) (i0 : ∀ e, gt e 6 = some RD → ixR e (.sl 6) (.int 0) = some (.tm (.int no))) :
    lcB G C (.nm 6) f_law_right_c0 f_law_right_l0 RD [v0, v1, some SD, v3, v4, v5, none, v7] = some (some (.int no), [v0, v1, some SD, v3, v4, v5, none, v7]) := by
  simp [lcB, f_law_right_c0, f_law_right_l0, sms_nil, sms_cons, sm_asg, sm_sub, sm_expr, sm_iff, sm_for, sm_whil, sm_ret, sm_retn, sm_brk, sm_pass, ex_con, ex_glo, ex_kix, ex_dlit, ex_var, ex_vz, ex_pk, ex_mv, ex_cs, ex_prim, ex_ix, ex_tup, ex_lst, ex_nott, ex_ands, ex_ors, ex_ite, ex_chain, ex_call, ex_fld, ex_meth, ex_new, sm_sfld, sm_nev, ex_mut, ex_lc, exs_nil, exs_cons, it_seq, it_enum, enumT, nmbr, itemsT, it_rng1, it_rng2, gt, gets, R.get, Cn.d, bool1, tms, tm1, bindTg, endDs, lentOk, back, mutR, wrR, putR, M.ev, wipeE, setP, asSeq, asTup, i0, sLine]
theorem right1 (n : Nat) (WD W SD : D) (nu ke : Int) (SL TL : List D) (y5 y7 : Option D) (hi : items SD = some SL) (hlc : lcL (lcB G (evF G fns n) (.nm 6) f_law_right_c0 f_law_right_l0) SL [] [some WD, some W, some SD, some (.int nu), some (.int ke), none, none, none] = some (TL, [some WD, some W, some SD, some (.int nu), some (.int ke), none, none, none])) (hadd : P.ev .add [.nd .lst true TL, .nd .lst true [.int (-1), .int (-2), .int (-3), .int (-4)]] = some (.nd .lst true (TL ++ [.int (-1), .int (-2), .int (-3), .int (-4)]))) (tz : fzs (TL ++ [.int (-1), .int (-2), .int (-3), .int (-4)]) = true)
    (hf : forL (forB G (evF G fns n) (.nm 5) f_law_right_b0) (TL ++ [.int (-1), .int (-2), .int (-3), .int (-4)]) [some WD, some W, some SD, some (.int nu), some (.int ke), none, none, none] = some (.nx [some WD, some W, some SD, some (.int nu), some (.int ke), y5, none, y7])) :
    evF G fns (n + 1) 16 [WD, W, SD, .int nu, .int ke] = some (.bl true, [WD, W, SD, .int nu, .int ke]) := by
  have n1 : ∀ a : Int, P.ev .neg [.int a] = some (.int (-a)) := fun a => rfl
  have it : items (.nd .lst true (TL ++ [.int (-1), .int (-2), .int (-3), .int (-4)])) = some (TL ++ [.int (-1), .int (-2), .int (-3), .int (-4)]) := itemsL true _ tz
  rw [evF_at (fn := f_law_right) rfl rfl]
  generalize TL ++ [.int (-1), .int (-2), .int (-3), .int (-4)] = TT at *
  simp [f_law_right, startE, sms_nil, sms_cons, sm_asg, sm_sub, sm_expr, sm_iff, sm_for, sm_whil, sm_ret, sm_retn, sm_brk, sm_pass, ex_con, ex_glo, ex_kix, ex_dlit, ex_var, ex_vz, ex_pk, ex_mv, ex_cs, ex_prim, ex_ix, ex_tup, ex_lst, ex_nott, ex_ands, ex_ors, ex_ite, ex_chain, ex_call, ex_fld, ex_meth, ex_new, sm_sfld, sm_nev, ex_mut, ex_lc, exs_nil, exs_cons, it_seq, it_enum, enumT, nmbr, itemsT, it_rng1, it_rng2, gt, gets, R.get, Cn.d, bool1, tms, tm1, bindTg, endDs, lentOk, back, mutR, wrR, putR, M.ev, wipeE, setP, asSeq, asTup, hi, hlc, n1, hadd, it, hf, sLine]
theorem right' (w : Wh) (wok : w.Ok) (wsz : w.size ≤ 9) (si : List Sr) (hs : ∀ s ∈ si, 0 ≤ s.no) (sl : si.length ≤ 100) (o : Bool) (nu ke : Int) (ke0 : 0 ≤ ke) (n : Nat) (hn : 12 ≤ n) : evF G fns n 16 [w.fd, wl w.words, SI o si, .int nu, .int ke] = some (.bl true, [w.fd, wl w.words, SI o si, .int nu, .int ke]) := by
  obtain ⟨n, rfl⟩ : ∃ m, n = m + 1 := ⟨n - 1, by omega⟩
  have hd := w.dsz
  have wo := whOf_fd w
  obtain ⟨ci, ns, xs, e, k1, k2, k3⟩ := wo.out
  have lc := lcL_zip (f := lcB G (evF G fns n) (.nm 6) f_law_right_c0 f_law_right_l0) (e := [some w.fd, some (wl w.words), some (SI o si), some (.int nu), some (.int ke), none, none, none]) Sr.d (fun s => D.int s.no) si [] (fun s hs => right_c _ _ _ _ _ _ _ _ _ s.no (s.i0 6)) (by simp [sLine]; omega)
  rw [List.nil_append] at lc
  have et : (si.map fun s => D.int s.no) ++ [.int (-1), .int (-2), .int (-3), .int (-4)] = (si.map Sr.no ++ [-1, -2, -3, -4]).map D.int := by simp
  have hadd : P.ev .add [.nd .lst true (si.map fun s => D.int s.no), .nd .lst true [.int (-1), .int (-2), .int (-3), .int (-4)]] = some (.nd .lst true ((si.map fun s => D.int s.no) ++ [.int (-1), .int (-2), .int (-3), .int (-4)])) := by
    rw [v_addl, if_pos]
    have : fzs (si.map fun s => D.int s.no) = true := fz_list _ (fun _ => rfl) si
    simp [this, sLine]
    omega
  have at0 : At w.words 0 w.words := fun t x e => by simpa using e
  obtain ⟨y5, y7, hf⟩ := right_for n (wl w.words) (SI o si) ci w.ff ns xs nu ke (fun th => fits si nu ke th w) (fun _ => (w.words.length : Int)) (by simpa using k1) k2 (si.map Sr.no ++ [-1, -2, -3, -4]) (fun th hth => by
    have ok : ThOk si th := by
      rcases List.mem_append.mp hth with h | h
      · obtain ⟨s, hs', rfl⟩ := List.mem_map.mp h
        exact .inl ⟨hs s hs', find_mem hs'⟩
      · have : th < 0 := by
          simp only [List.mem_cons, List.not_mem_nil, or_false] at h
          omega
        exact .inr ⟨this, find_neg hs this⟩
    refine ⟨?_, ?_⟩
    · rw [← e]
      exact fits_ev si o nu ke th w w.fd wo n (by omega)
    · exact lfits si o true nu ke th ke0 ok w.words w wok n (by omega) 0 _ 0 rfl at0 (by simp)) none none none
  rw [← e, ← et] at hf
  exact right1 n w.fd (wl w.words) (SI o si) nu ke (si.map Sr.d) _ y5 y7 (itemsL o _ (srs_fz si)) lc hadd (by rw [et]; exact fzs_ints _) hf
theorem sr_eqi (n : Nat) (s : Sr) : eqi (D.eqv (n + 2)) s.d s.d = some true := eqi_nd (by decide) _ _ (eqv_nd (n + 1) (k := .tup) (by decide) _ _ _ fun x hx => by
  simp only [List.mem_cons, List.not_mem_nil, or_false] at hx
  rcases hx with rfl | rfl | rfl | rfl | rfl
  · exact eqi_int _ _
  · exact eqi_int _ _
  · exact eqi_nd (by decide) _ _ (eqv_nd n (k := .tup) (by decide) _ _ _ fun x hx => by
      obtain ⟨z, _, rfl⟩ := List.mem_map.mp hx
      exact eqi_str _ _)
  · exact eqi_int _ _
  · cases n <;> simp [eqi, tagEq, D.eqv, eqS])
theorem sight_eqv (o o' : Bool) (si : List Sr) : D.eqv 60 (SI o si) (SI o' si) = some true := eqv_nd 59 (k := .lst) (by decide) o o' _ fun x hx => by
  obtain ⟨p, hp, rfl⟩ := List.mem_map.mp hx
  exact sr_eqi 57 p
theorem sight_ne (o o' : Bool) (si : List Sr) : P.ev .ne [SI o si, SI o' si] = some (.bl false) := by
  show ((D.eqv 60 _ _).map fun k => D.bl (!k)) = _
  rw [sight_eqv]; rfl
theorem sight_eq (o o' : Bool) (si : List Sr) : P.ev .eq [SI o si, SI o' si] = some (.bl true) := by
  show ((D.eqv 60 _ _).map D.bl) = _
  rw [sight_eqv]; rfl
theorem law1 (n : Nat) (A T0 T1 T2 T3 T4 T5 T6 T7 T8 T9 Ta N W WD AL E : D) (X Y : List D) (z : Str) (s q1 q2 q3 q4 L nu ke nu2 ke2 : Int) (af : A.fr = A) (t0 : D.nd .lst true [A, .int 0] = T0) (wf : W.fz = false) (wdz : WD.fz = true)
    (h2 : evF G fns n 10 [T0, .int 4] = some (N, [T1, .int 4])) (h3 : evF G fns n 12 [T1, N, .int 9] = some (.tup [W, .int s], [T2, N, .int 9])) (i3 : ∀ e : Env, ixR e (.tm (.tup [W, .int s])) (.int 0) = some (.tm W)) (hj : P.ev .join [.str " ", W] = some (.str z)) (h4 : evF G fns n 8 [.str z] = some (WD, [.str z])) (h5 : evF G fns n 13 [T2, N] = some (.nd .lst false X, [T3, N])) (h6 : evF G fns n 13 [T3, N] = some (.nd .lst false Y, [T4, N]))
    (k1 : evF G fns n 9 [T4, .int 16] = some (.int q1, [T5, .int 16])) (ha : P.ev .add [.nd .lst false X, .nd .lst true [.tup [.int 3, .int 0]]] = some AL) (hL : P.ev .len [.nd .lst false X] = some (.int L)) (k2 : evF G fns n 9 [T5, .int (L + 1)] = some (.int q2, [T6, .int (L + 1)])) (ia : ∀ e : Env, ixR e (.tm AL) (.int q2) = some (.tm E)) (ie : ∀ e : Env, ixR e (.tm E) (.int 0) = some (.tm (.int q3))) (k3 : evF G fns n 9 [T6, .int 2] = some (.int q4, [T7, .int 2])) (i4 : ∀ e : Env, ixR e (.tm (.ol [.int q1, .int q3])) (.int q4) = some (.tm (.int nu)))
    (k4 : evF G fns n 9 [T7, .int 4] = some (.int ke, [T8, .int 4])) (hl : P.ev .list_ [.nd .lst false X] = some (.nd .lst true X)) (r1 : evF G fns n 16 [WD, W, .nd .lst true X, .int nu, .int ke] = some (.bl true, [WD, W, .nd .lst true X, .int nu, .int ke])) (ne1 : P.ev .ne [.nd .lst true X, .nd .lst false X] = some (.bl false)) (cl : M.ev .clear X [] = some ([], .non)) (xt : M.ev .extend [] [.nd .lst false Y] = some (Y, .non))
    (k5 : evF G fns n 9 [T8, .int 16] = some (.int nu2, [T9, .int 16])) (k6 : evF G fns n 9 [T9, .int 4] = some (.int ke2, [Ta, .int 4])) (r2 : evF G fns n 16 [WD, W, .nd .lst true Y, .int nu2, .int ke2] = some (.bl true, [WD, W, .nd .lst true Y, .int nu2, .int ke2])) (eq2 : P.ev .eq [.nd .lst true Y, .nd .lst false Y] = some (.bl true)) (yz : fzs Y = true) (yf : frs Y = Y) (xz : fzs X = true) (xf : frs X = X) (nz : N.fz = true) :
    ∃ ds', evF G fns (n + 1) 17 [A] = some (.bl true, ds') := by
  subst t0
  rw [evF_at (fn := f_law) rfl rfl]
  simp [f_law, startE, sms_nil, sms_cons, sm_asg, sm_sub, sm_expr, sm_iff, sm_for, sm_whil, sm_ret, sm_retn, sm_brk, sm_pass, ex_con, ex_glo, ex_kix, ex_dlit, ex_var, ex_vz, ex_pk, ex_mv, ex_cs, ex_prim, ex_ix, ex_tup, ex_lst, ex_nott, ex_ands, ex_ors, ex_ite, ex_chain, ex_call, ex_fld, ex_meth, ex_new, sm_sfld, sm_nev, ex_mut, ex_lc, exs_nil, exs_cons, it_seq, it_enum, enumT, nmbr, itemsT, it_rng1, it_rng2, gt, gets, R.get, Cn.d, bool1, tms, tm1, bindTg, endDs, lentOk, back, mutR, wrR, putR, wipeE, setP, asSeq, asTup, af, h2, h3, i3, hj, h4, h5, h6, k1, ha, hL, k2, ia, ie, k3, i4, k4, hl, r1, ne1, cl, xt, k5, k6, r2, eq2, yz, yf, xz, xf, nz, wf, wdz, v_add, sLine]
theorem plain (ns : List Int) (hl : ns.length ≤ 63) : ∃ ds', evF G fns 45 17 [.nd .scr false (ns.map .int)] = some (.bl true, ds') := by
  obtain ⟨xs, a1, x1, x2, x2d, x3, x4, x5⟩ := names_ev 42 ns hl 0 4 (by omega) (by omega) 4 rfl (by omega)
  obtain ⟨w, a2, s, w1, w2, w3, w4, w5, w6⟩ := whom_ev ns hl xs (by omega) x2 9 (by omega) (by omega) 42 a1 9 (by omega) rfl (by omega) (by omega)
  obtain ⟨si, a3, s1, s2, s3, s4, s5⟩ := sight' 42 ns hl xs x1 a2 (by omega) (by omega)
  obtain ⟨sj, a4, t1, t2, t3, t4, t5⟩ := sight' 42 ns hl xs x1 a3 (by omega) (by omega)
  obtain ⟨q1, b1, c1, k1⟩ := take_ev 43 ns hl a4 16 (by omega) (by omega) (by omega)
  obtain ⟨q2, b2, c2, k2⟩ := take_ev 43 ns hl (a4 + 1) (si.length + 1) (by omega) (by omega) (by omega)
  obtain ⟨q4, b3, c3, k3⟩ := take_ev 43 ns hl (a4 + 1 + 1) 2 (by omega) (by omega) (by omega)
  obtain ⟨ke, b4, c4, k4⟩ := take_ev 43 ns hl (a4 + 1 + 1 + 1) 4 (by omega) (by omega) (by omega)
  obtain ⟨nu2, b5, c5, k5⟩ := take_ev 43 ns hl (a4 + 1 + 1 + 1 + 1) 16 (by omega) (by omega) (by omega)
  obtain ⟨ke2, b6, c6, k6⟩ := take_ev 43 ns hl (a4 + 1 + 1 + 1 + 1 + 1) 4 (by omega) (by omega) (by omega)
  have hd := w.dsz
  have hr := read_ev w w1 (by omega) 43 (by omega)
  have hj := join_wl w w1 (by omega)
  have hfr : (D.nd .scr false (ns.map .int)).fr = .nd .scr false (ns.map .int) := by simp [frs_ints ns]
  have ha : P.ev .add [.nd .lst false (si.map Sr.d), .nd .lst true [.tup [.int 3, .int 0]]] = some (.nd .lst true (si.map Sr.d ++ [.tup [.int 3, .int 0]])) := by
    rw [v_addl, if_pos]
    simp [srs_fz, sLine]
    omega
  have hL : P.ev .len [.nd .lst false (si.map Sr.d)] = some (.int si.length) := by rw [v_lenl, List.length_map]
  obtain ⟨E, q3, ez, ia, ie⟩ : ∃ (E : D) (q3 : Int), E.fz = true ∧ (∀ e : Env, ixR e (.tm (.nd .lst true (si.map Sr.d ++ [.tup [.int 3, .int 0]]))) (.int q2) = some (.tm E)) ∧ ∀ e : Env, ixR e (.tm E) (.int 0) = some (.tm (.int q3)) := by
    obtain ⟨j, hj⟩ : ∃ j : Nat, q2 = j := ⟨q2.toNat, by omega⟩
    by_cases c : j < si.length
    · have hx : (si.map Sr.d ++ [D.tup [.int 3, .int 0]])[j]? = some (si[j]'c).d := by
        rw [List.getElem?_append_left (by simpa using c), List.getElem?_map, List.getElem?_eq_getElem c]
        rfl
      exact ⟨(si[j]'c).d, (si[j]'c).no, Sr.fz _, fun e => ix_tms (.inl rfl) true e q2 j hj _ hx (Sr.fz _), fun e => ix_tms (.inr rfl) false e 0 0 rfl _ rfl rfl⟩
    · have hx : (si.map Sr.d ++ [D.tup [.int 3, .int 0]])[j]? = some (.tup [.int 3, .int 0]) := by
        have : j = si.length := by omega
        subst this
        rw [List.getElem?_append_right (by simp)]
        simp
      exact ⟨.tup [.int 3, .int 0], 3, rfl, fun e => ix_tms (.inl rfl) true e q2 j hj _ hx rfl, fun e => rfl⟩
  obtain ⟨nu, i4⟩ : ∃ nu : Int, ∀ e : Env, ixR e (.tm (.ol [.int q1, .int q3])) (.int q4) = some (.tm (.int nu)) := by
    have : q4 = 0 ∨ q4 = 1 := by omega
    rcases this with rfl | rfl
    · exact ⟨_, fun e => rfl⟩
    · exact ⟨_, fun e => rfl⟩
  have r1 := right' w w1 (by omega) si s1 (by omega) true nu ke (by omega) 44 (by omega)
  have r2 := right' w w1 (by omega) sj t1 (by omega) true nu2 ke2 (by omega) 44 (by omega)
  have cl : M.ev .clear (si.map Sr.d) [] = some ([], .non) := rfl
  have xt : M.ev .extend [] [.nd .lst false (sj.map Sr.d)] = some (sj.map Sr.d, .non) := by
    simp only [M.ev, srs_fz]
    simp [sLine]
    omega
  exact law1 44 (.nd .scr false (ns.map .int)) (stD ns 0) (stD ns a1) (stD ns a2) (stD ns a3) (stD ns a4) (stD ns (a4 + 1)) (stD ns (a4 + 1 + 1)) (stD ns (a4 + 1 + 1 + 1)) (stD ns (a4 + 1 + 1 + 1 + 1)) (stD ns (a4 + 1 + 1 + 1 + 1 + 1)) (stD ns (a4 + 1 + 1 + 1 + 1 + 1 + 1)) (nfl xs) (wl w.words) w.fd (.nd .lst true (si.map Sr.d ++ [.tup [.int 3, .int 0]])) E (si.map Sr.d) (sj.map Sr.d) w.text s q1 q2 q3 q4 si.length nu ke nu2 ke2 hfr rfl rfl w.fz_fd x5 w6 (fun e => rfl) hj hr s5 t5 k1 ha hL k2 ia ie k3 i4 k4 (by rw [v_list, if_pos (srs_fz si)]) r1 (sight_ne true false si) cl xt k5 k6 r2 (sight_eq true false sj) (srs_fz sj) (frs_fz _ (srs_fz sj)) (srs_fz si) (frs_fz _ (srs_fz si)) (by simp [nfl, wl_fz])
end K03
end TK
namespace TK
namespace K03
open PySem PySem.Spec PyProof.Rows L2
def top (i : Nat) : Stmt := PySem.Challenge.pw_turnstack_k03_what_fits.main.body.getD i (.Pass ⟨0, 0, 0, 0⟩)
def cm (i j : Nat) : Stmt := match top i with | .ClassDef _ _ _ body _ _ _ _ _ _ _ => body.getD j (.Pass ⟨0, 0, 0, 0⟩) | s => s
def T : Tb where
  tab := [(("is_name" : Str), 0, 1, []), (("is_number" : Str), 1, 1, []), (("row_of" : Str), 2, 2, []), (("word_at" : Str), 3, 2, []), (("name_at" : Str), 4, 2, []), (("number_at" : Str), 5, 2, []), (("part_at" : Str), 6, 3, []), (("whom_at" : Str), 7, 2, []), (("read_whom" : Str), 8, 1, []), (("_law_take" : Str), 9, 2, []), (("_law_names" : Str), 10, 2, []), (("_law_leaf" : Str), 11, 2, []), (("_law_whom" : Str), 12, 3, []), (("_law_sight" : Str), 13, 2, []), (("_law_row" : Str), 14, 2, []), (("_law_fits" : Str), 15, 4, []), (("_law_right" : Str), 16, 5, []), (("law" : Str), 17, 1, [])]
  cls := [(("Whom" : Str), 0), (("Itself" : Str), 1), (("Mine" : Str), 2), (("Marked" : Str), 3), (("Strong" : Str), 4), (("Others" : Str), 5), (("Pair" : Str), 6)]
  mths := [("fits" : Str)]
  isk := [0, 1, 2, 3, 4, 5, 6]
  cons := [("LETTERS" : Str), ("FIGURES" : Str), ("MOST_WORDS" : Str)]
  dcts := []
def e0 : Ent := ⟨("is_name" : Str), ("is_name" : Str), (top 8), [("word" : Str)], [("word" : Str), ("sign" : Str)], [0], [], []⟩
def e1 : Ent := ⟨("is_number" : Str), ("is_number" : Str), (top 9), [("word" : Str)], [("word" : Str), ("sign" : Str)], [0], [], []⟩
def e2 : Ent := ⟨("row_of" : Str), ("row_of" : Str), (top 10), [("sight" : Str), ("thing" : Str)], [("sight" : Str), ("thing" : Str), ("row" : Str)], [0, 1], [], []⟩
def e3 : Ent := ⟨("word_at" : Str), ("word_at" : Str), (top 18), [("words" : Str), ("at" : Str)], [("words" : Str), ("at" : Str)], [0, 1], [], []⟩
def e4 : Ent := ⟨("name_at" : Str), ("name_at" : Str), (top 19), [("words" : Str), ("at" : Str)], [("words" : Str), ("at" : Str)], [0, 1], [], []⟩
def e5 : Ent := ⟨("number_at" : Str), ("number_at" : Str), (top 20), [("words" : Str), ("at" : Str)], [("words" : Str), ("at" : Str)], [0, 1], [], []⟩
def e6 : Ent := ⟨("part_at" : Str), ("part_at" : Str), (top 21), [("words" : Str), ("at" : Str), ("left" : Str)], [("words" : Str), ("at" : Str), ("left" : Str), ("word" : Str), ("part" : Str), ("after" : Str), ("less" : Str), ("one" : Str), ("other" : Str)], [0, 1, 2], [], []⟩
def e7 : Ent := ⟨("whom_at" : Str), ("whom_at" : Str), (top 22), [("words" : Str), ("at" : Str)], [("words" : Str), ("at" : Str), ("whom" : Str), ("after" : Str), ("left" : Str)], [0, 1], [], []⟩
def e8 : Ent := ⟨("read_whom" : Str), ("read_whom" : Str), (top 23), [("text" : Str)], [("text" : Str), ("words" : Str), ("whom" : Str), ("after" : Str)], [0], [], []⟩
def e9 : Ent := ⟨("_law_take" : Str), ("_law_take" : Str), (top 25), [("_law_state" : Str), ("_law_most" : Str)], [("_law_state" : Str), ("_law_most" : Str), ("_law_script" : Str), ("_law_at" : Str), ("_law_cell" : Str)], [0, 1], [], []⟩
def e10 : Ent := ⟨("_law_names" : Str), ("_law_names" : Str), (top 26), [("_law_state" : Str), ("_law_many" : Str)], [("_law_state" : Str), ("_law_many" : Str), ("_law_letters" : Str), ("_law_size" : Str), ("_law_at" : Str), ("_law_base" : Str), ("_law_k" : Str), ("_law_turn" : Str), ("_law_names_here" : Str), ("_law_sign" : Str)], [0, 1], [], []⟩
def e11 : Ent := ⟨("_law_leaf" : Str), ("_law_leaf" : Str), (top 27), [("_law_state" : Str), ("_law_names_here" : Str)], [("_law_state" : Str), ("_law_names_here" : Str), ("_law_way" : Str)], [0, 1], [], []⟩
def e12 : Ent := ⟨("_law_whom" : Str), ("_law_whom" : Str), (top 28), [("_law_state" : Str), ("_law_names_here" : Str), ("_law_left" : Str)], [("_law_state" : Str), ("_law_names_here" : Str), ("_law_left" : Str), ("_law_way" : Str), ("_law_words" : Str), ("_law_used" : Str), ("_law_more" : Str), ("_law_again" : Str)], [0, 1, 2], [], []⟩
def e13 : Ent := ⟨("_law_sight" : Str), ("_law_sight" : Str), (top 29), [("_law_state" : Str), ("_law_names_here" : Str)], [("_law_state" : Str), ("_law_names_here" : Str), ("_law_sight_here" : Str), ("_law_number" : Str), ("_law_some" : Str), ("_law_k" : Str), ("_law_keeper" : Str), ("_law_bits" : Str), ("_law_marks" : Str), ("_law_j" : Str), ("_law_force" : Str)], [0, 1], [], []⟩
def e14 : Ent := ⟨("_law_row" : Str), ("_law_row" : Str), (top 30), [("_law_sight_here" : Str), ("_law_thing" : Str)], [("_law_sight_here" : Str), ("_law_thing" : Str), ("_law_row_here" : Str)], [0, 1], [], []⟩
def e15 : Ent := ⟨("_law_fits" : Str), ("_law_fits" : Str), (top 31), [("_law_words" : Str), ("_law_at" : Str), ("_law_sight_here" : Str), ("_law_asked" : Str)], [("_law_words" : Str), ("_law_at" : Str), ("_law_sight_here" : Str), ("_law_asked" : Str), ("_law_number" : Str), ("_law_keeper" : Str), ("_law_thing" : Str), ("_law_row_here" : Str), ("_law_word" : Str), ("_law_truth" : Str), ("_law_after" : Str), ("_law_one" : Str), ("_law_other" : Str)], [0, 1, 2, 3], [], []⟩
def e16 : Ent := ⟨("_law_right" : Str), ("_law_right" : Str), (top 32), [("_law_whom_here" : Str), ("_law_words" : Str), ("_law_sight_here" : Str), ("_law_number" : Str), ("_law_keeper" : Str)], [("_law_whom_here" : Str), ("_law_words" : Str), ("_law_sight_here" : Str), ("_law_number" : Str), ("_law_keeper" : Str), ("_law_thing" : Str), ("_law_row_here" : Str), ("_law_found" : Str)], [0, 1, 2, 3, 4], [], []⟩
def e17 : Ent := ⟨("law" : Str), ("law" : Str), (top 33), [("_law_script" : Str)], [("_law_script" : Str), ("_law_state" : Str), ("_law_names_here" : Str), ("_law_words" : Str), ("_law_whom_here" : Str), ("_law_sight_here" : Str), ("_law_other" : Str), ("_law_number" : Str), ("_law_keeper" : Str), ("_law_handed" : Str)], [0], [], []⟩
def e18 : Ent := ⟨("fits" : Str), ("Whom.fits" : Str), (cm 11 0), [("self" : Str), ("sight" : Str), ("number" : Str), ("keeper" : Str), ("thing" : Str)], [("self" : Str), ("sight" : Str), ("number" : Str), ("keeper" : Str), ("thing" : Str)], [0, 1, 2, 3, 4], [], []⟩
def e19 : Ent := ⟨("fits" : Str), ("Itself.fits" : Str), (cm 12 0), [("self" : Str), ("sight" : Str), ("number" : Str), ("keeper" : Str), ("thing" : Str)], [("self" : Str), ("sight" : Str), ("number" : Str), ("keeper" : Str), ("thing" : Str)], [0, 1, 2, 3, 4], [], []⟩
def e20 : Ent := ⟨("fits" : Str), ("Mine.fits" : Str), (cm 13 0), [("self" : Str), ("sight" : Str), ("number" : Str), ("keeper" : Str), ("thing" : Str)], [("self" : Str), ("sight" : Str), ("number" : Str), ("keeper" : Str), ("thing" : Str), ("row" : Str)], [0, 1, 2, 3, 4], [], []⟩
def e21 : Ent := ⟨("__init__" : Str), ("Marked.__init__" : Str), (cm 14 0), [("self" : Str), ("name" : Str)], [("self" : Str), ("name" : Str)], [0, 1], [], []⟩
def e22 : Ent := ⟨("fits" : Str), ("Marked.fits" : Str), (cm 14 1), [("self" : Str), ("sight" : Str), ("number" : Str), ("keeper" : Str), ("thing" : Str)], [("self" : Str), ("sight" : Str), ("number" : Str), ("keeper" : Str), ("thing" : Str), ("row" : Str)], [0, 1, 2, 3, 4], [], []⟩
def e23 : Ent := ⟨("__init__" : Str), ("Strong.__init__" : Str), (cm 15 0), [("self" : Str), ("least" : Str)], [("self" : Str), ("least" : Str)], [0, 1], [], []⟩
def e24 : Ent := ⟨("fits" : Str), ("Strong.fits" : Str), (cm 15 1), [("self" : Str), ("sight" : Str), ("number" : Str), ("keeper" : Str), ("thing" : Str)], [("self" : Str), ("sight" : Str), ("number" : Str), ("keeper" : Str), ("thing" : Str), ("row" : Str)], [0, 1, 2, 3, 4], [], []⟩
def e25 : Ent := ⟨("__init__" : Str), ("Others.__init__" : Str), (cm 16 0), [("self" : Str), ("part" : Str)], [("self" : Str), ("part" : Str)], [0, 1], [], []⟩
def e26 : Ent := ⟨("fits" : Str), ("Others.fits" : Str), (cm 16 1), [("self" : Str), ("sight" : Str), ("number" : Str), ("keeper" : Str), ("thing" : Str)], [("self" : Str), ("sight" : Str), ("number" : Str), ("keeper" : Str), ("thing" : Str)], [0, 1, 2, 3, 4], [], []⟩
def e27 : Ent := ⟨("__init__" : Str), ("Pair.__init__" : Str), (cm 17 0), [("self" : Str), ("word" : Str), ("one" : Str), ("other" : Str)], [("self" : Str), ("word" : Str), ("one" : Str), ("other" : Str)], [0, 1, 2, 3], [], []⟩
def e28 : Ent := ⟨("fits" : Str), ("Pair.fits" : Str), (cm 17 1), [("self" : Str), ("sight" : Str), ("number" : Str), ("keeper" : Str), ("thing" : Str)], [("self" : Str), ("sight" : Str), ("number" : Str), ("keeper" : Str), ("thing" : Str), ("first" : Str), ("second" : Str)], [0, 1, 2, 3, 4], [], []⟩
def E : List Ent := [e0, e1, e2, e3, e4, e5, e6, e7, e8, e9, e10, e11, e12, e13, e14, e15, e16, e17, e18, e19, e20, e21, e22, e23, e24, e25, e26, e27, e28]
theorem ok0 : e0.Ok T 60 f_is_name := ⟨by decide +kernel, rfl, by kernel_rfl, ⟨rfl, rfl, rfl, by decide +kernel, rfl, by decide +kernel, by decide +kernel⟩⟩
theorem ok1 : e1.Ok T 60 f_is_number := ⟨by decide +kernel, rfl, by kernel_rfl, ⟨rfl, rfl, rfl, by decide +kernel, rfl, by decide +kernel, by decide +kernel⟩⟩
theorem ok2 : e2.Ok T 60 f_row_of := ⟨by decide +kernel, rfl, by kernel_rfl, ⟨rfl, rfl, rfl, by decide +kernel, rfl, by decide +kernel, by decide +kernel⟩⟩
theorem ok3 : e3.Ok T 60 f_word_at := ⟨by decide +kernel, rfl, by kernel_rfl, ⟨rfl, rfl, rfl, by decide +kernel, rfl, by decide +kernel, by decide +kernel⟩⟩
theorem ok4 : e4.Ok T 60 f_name_at := ⟨by decide +kernel, rfl, by kernel_rfl, ⟨rfl, rfl, rfl, by decide +kernel, rfl, by decide +kernel, by decide +kernel⟩⟩
theorem ok5 : e5.Ok T 60 f_number_at := ⟨by decide +kernel, rfl, by kernel_rfl, ⟨rfl, rfl, rfl, by decide +kernel, rfl, by decide +kernel, by decide +kernel⟩⟩
theorem ok6 : e6.Ok T 60 f_part_at := ⟨by decide +kernel, rfl, by kernel_rfl, ⟨rfl, rfl, rfl, by decide +kernel, rfl, by decide +kernel, by decide +kernel⟩⟩
theorem ok7 : e7.Ok T 60 f_whom_at := ⟨by decide +kernel, rfl, by kernel_rfl, ⟨rfl, rfl, rfl, by decide +kernel, rfl, by decide +kernel, by decide +kernel⟩⟩
theorem ok8 : e8.Ok T 60 f_read_whom := ⟨by decide +kernel, rfl, by kernel_rfl, ⟨rfl, rfl, rfl, by decide +kernel, rfl, by decide +kernel, by decide +kernel⟩⟩
theorem ok9 : e9.Ok T 60 f_law_take := ⟨by decide +kernel, rfl, by kernel_rfl, ⟨rfl, rfl, rfl, by decide +kernel, rfl, by decide +kernel, by decide +kernel⟩⟩
theorem ok10 : e10.Ok T 60 f_law_names := ⟨by decide +kernel, rfl, by kernel_rfl, ⟨rfl, rfl, rfl, by decide +kernel, rfl, by decide +kernel, by decide +kernel⟩⟩
theorem ok11 : e11.Ok T 60 f_law_leaf := ⟨by decide +kernel, rfl, by kernel_rfl, ⟨rfl, rfl, rfl, by decide +kernel, rfl, by decide +kernel, by decide +kernel⟩⟩
theorem ok12 : e12.Ok T 60 f_law_whom := ⟨by decide +kernel, rfl, by kernel_rfl, ⟨rfl, rfl, rfl, by decide +kernel, rfl, by decide +kernel, by decide +kernel⟩⟩
theorem ok13 : e13.Ok T 60 f_law_sight := ⟨by decide +kernel, rfl, by kernel_rfl, ⟨rfl, rfl, rfl, by decide +kernel, rfl, by decide +kernel, by decide +kernel⟩⟩
theorem ok14 : e14.Ok T 60 f_law_row := ⟨by decide +kernel, rfl, by kernel_rfl, ⟨rfl, rfl, rfl, by decide +kernel, rfl, by decide +kernel, by decide +kernel⟩⟩
theorem ok15 : e15.Ok T 60 f_law_fits := ⟨by decide +kernel, rfl, by kernel_rfl, ⟨rfl, rfl, rfl, by decide +kernel, rfl, by decide +kernel, by decide +kernel⟩⟩
theorem ok16 : e16.Ok T 60 f_law_right := ⟨by decide +kernel, rfl, by kernel_rfl, ⟨rfl, rfl, rfl, by decide +kernel, rfl, by decide +kernel, by decide +kernel⟩⟩
theorem ok17 : e17.Ok T 60 f_law := ⟨by decide +kernel, rfl, by kernel_rfl, ⟨rfl, rfl, rfl, by decide +kernel, rfl, by decide +kernel, by decide +kernel⟩⟩
theorem ok18 : e18.Ok T 60 f_Whom_fits := ⟨by decide +kernel, rfl, by kernel_rfl, ⟨rfl, rfl, rfl, by decide +kernel, rfl, by decide +kernel, by decide +kernel⟩⟩
theorem ok19 : e19.Ok T 60 f_Itself_fits := ⟨by decide +kernel, rfl, by kernel_rfl, ⟨rfl, rfl, rfl, by decide +kernel, rfl, by decide +kernel, by decide +kernel⟩⟩
theorem ok20 : e20.Ok T 60 f_Mine_fits := ⟨by decide +kernel, rfl, by kernel_rfl, ⟨rfl, rfl, rfl, by decide +kernel, rfl, by decide +kernel, by decide +kernel⟩⟩
theorem ok21 : e21.Ok T 60 f_Marked___init__ := ⟨by decide +kernel, rfl, by kernel_rfl, ⟨rfl, rfl, rfl, by decide +kernel, rfl, by decide +kernel, by decide +kernel⟩⟩
theorem ok22 : e22.Ok T 60 f_Marked_fits := ⟨by decide +kernel, rfl, by kernel_rfl, ⟨rfl, rfl, rfl, by decide +kernel, rfl, by decide +kernel, by decide +kernel⟩⟩
theorem ok23 : e23.Ok T 60 f_Strong___init__ := ⟨by decide +kernel, rfl, by kernel_rfl, ⟨rfl, rfl, rfl, by decide +kernel, rfl, by decide +kernel, by decide +kernel⟩⟩
theorem ok24 : e24.Ok T 60 f_Strong_fits := ⟨by decide +kernel, rfl, by kernel_rfl, ⟨rfl, rfl, rfl, by decide +kernel, rfl, by decide +kernel, by decide +kernel⟩⟩
theorem ok25 : e25.Ok T 60 f_Others___init__ := ⟨by decide +kernel, rfl, by kernel_rfl, ⟨rfl, rfl, rfl, by decide +kernel, rfl, by decide +kernel, by decide +kernel⟩⟩
theorem ok26 : e26.Ok T 60 f_Others_fits := ⟨by decide +kernel, rfl, by kernel_rfl, ⟨rfl, rfl, rfl, by decide +kernel, rfl, by decide +kernel, by decide +kernel⟩⟩
theorem ok27 : e27.Ok T 60 f_Pair___init__ := ⟨by decide +kernel, rfl, by kernel_rfl, ⟨rfl, rfl, rfl, by decide +kernel, rfl, by decide +kernel, by decide +kernel⟩⟩
theorem ok28 : e28.Ok T 60 f_Pair_fits := ⟨by decide +kernel, rfl, by kernel_rfl, ⟨rfl, rfl, rfl, by decide +kernel, rfl, by decide +kernel, by decide +kernel⟩⟩
theorem stat : ∀ (i : Nat) (e : Ent), E[i]? = some e → ∃ fn, fns[i]? = some fn ∧ e.Ok T 60 fn := by
  intro i e h
  match i, h with
  | 0, h => cases h; exact ⟨_, rfl, ok0⟩
  | 1, h => cases h; exact ⟨_, rfl, ok1⟩
  | 2, h => cases h; exact ⟨_, rfl, ok2⟩
  | 3, h => cases h; exact ⟨_, rfl, ok3⟩
  | 4, h => cases h; exact ⟨_, rfl, ok4⟩
  | 5, h => cases h; exact ⟨_, rfl, ok5⟩
  | 6, h => cases h; exact ⟨_, rfl, ok6⟩
  | 7, h => cases h; exact ⟨_, rfl, ok7⟩
  | 8, h => cases h; exact ⟨_, rfl, ok8⟩
  | 9, h => cases h; exact ⟨_, rfl, ok9⟩
  | 10, h => cases h; exact ⟨_, rfl, ok10⟩
  | 11, h => cases h; exact ⟨_, rfl, ok11⟩
  | 12, h => cases h; exact ⟨_, rfl, ok12⟩
  | 13, h => cases h; exact ⟨_, rfl, ok13⟩
  | 14, h => cases h; exact ⟨_, rfl, ok14⟩
  | 15, h => cases h; exact ⟨_, rfl, ok15⟩
  | 16, h => cases h; exact ⟨_, rfl, ok16⟩
  | 17, h => cases h; exact ⟨_, rfl, ok17⟩
  | 18, h => cases h; exact ⟨_, rfl, ok18⟩
  | 19, h => cases h; exact ⟨_, rfl, ok19⟩
  | 20, h => cases h; exact ⟨_, rfl, ok20⟩
  | 21, h => cases h; exact ⟨_, rfl, ok21⟩
  | 22, h => cases h; exact ⟨_, rfl, ok22⟩
  | 23, h => cases h; exact ⟨_, rfl, ok23⟩
  | 24, h => cases h; exact ⟨_, rfl, ok24⟩
  | 25, h => cases h; exact ⟨_, rfl, ok25⟩
  | 26, h => cases h; exact ⟨_, rfl, ok26⟩
  | 27, h => cases h; exact ⟨_, rfl, ok27⟩
  | 28, h => cases h; exact ⟨_, rfl, ok28⟩
  | n + 29, h => simp [E] at h
def d0 : He.DefD := ⟨(("is_name" : Str), none), ("is_name" : Str), ("is_name" : Str), defArgs (top 8), defBody (top 8), defScope (top 8), [], []⟩
def d1 : He.DefD := ⟨(("is_number" : Str), none), ("is_number" : Str), ("is_number" : Str), defArgs (top 9), defBody (top 9), defScope (top 9), [], []⟩
def d2 : He.DefD := ⟨(("row_of" : Str), none), ("row_of" : Str), ("row_of" : Str), defArgs (top 10), defBody (top 10), defScope (top 10), [], []⟩
def d3 : He.DefD := ⟨(("word_at" : Str), none), ("word_at" : Str), ("word_at" : Str), defArgs (top 18), defBody (top 18), defScope (top 18), [], []⟩
def d4 : He.DefD := ⟨(("name_at" : Str), none), ("name_at" : Str), ("name_at" : Str), defArgs (top 19), defBody (top 19), defScope (top 19), [], []⟩
def d5 : He.DefD := ⟨(("number_at" : Str), none), ("number_at" : Str), ("number_at" : Str), defArgs (top 20), defBody (top 20), defScope (top 20), [], []⟩
def d6 : He.DefD := ⟨(("part_at" : Str), none), ("part_at" : Str), ("part_at" : Str), defArgs (top 21), defBody (top 21), defScope (top 21), [], []⟩
def d7 : He.DefD := ⟨(("whom_at" : Str), none), ("whom_at" : Str), ("whom_at" : Str), defArgs (top 22), defBody (top 22), defScope (top 22), [], []⟩
def d8 : He.DefD := ⟨(("read_whom" : Str), none), ("read_whom" : Str), ("read_whom" : Str), defArgs (top 23), defBody (top 23), defScope (top 23), [], []⟩
def d9 : He.DefD := ⟨(("_law_take" : Str), none), ("_law_take" : Str), ("_law_take" : Str), defArgs (top 25), defBody (top 25), defScope (top 25), [], []⟩
def d10 : He.DefD := ⟨(("_law_names" : Str), none), ("_law_names" : Str), ("_law_names" : Str), defArgs (top 26), defBody (top 26), defScope (top 26), [], []⟩
def d11 : He.DefD := ⟨(("_law_leaf" : Str), none), ("_law_leaf" : Str), ("_law_leaf" : Str), defArgs (top 27), defBody (top 27), defScope (top 27), [], []⟩
def d12 : He.DefD := ⟨(("_law_whom" : Str), none), ("_law_whom" : Str), ("_law_whom" : Str), defArgs (top 28), defBody (top 28), defScope (top 28), [], []⟩
def d13 : He.DefD := ⟨(("_law_sight" : Str), none), ("_law_sight" : Str), ("_law_sight" : Str), defArgs (top 29), defBody (top 29), defScope (top 29), [], []⟩
def d14 : He.DefD := ⟨(("_law_row" : Str), none), ("_law_row" : Str), ("_law_row" : Str), defArgs (top 30), defBody (top 30), defScope (top 30), [], []⟩
def d15 : He.DefD := ⟨(("_law_fits" : Str), none), ("_law_fits" : Str), ("_law_fits" : Str), defArgs (top 31), defBody (top 31), defScope (top 31), [], []⟩
def d16 : He.DefD := ⟨(("_law_right" : Str), none), ("_law_right" : Str), ("_law_right" : Str), defArgs (top 32), defBody (top 32), defScope (top 32), [], []⟩
def d17 : He.DefD := ⟨(("law" : Str), none), ("law" : Str), ("law" : Str), defArgs (top 33), defBody (top 33), defScope (top 33), [], []⟩
def d18 : He.DefD := ⟨(("Whom" : Str), some ("fits" : Str)), ("fits" : Str), ("Whom.fits" : Str), defArgs (cm 11 0), defBody (cm 11 0), defScope (cm 11 0), [], []⟩
def d19 : He.DefD := ⟨(("Itself" : Str), some ("fits" : Str)), ("fits" : Str), ("Itself.fits" : Str), defArgs (cm 12 0), defBody (cm 12 0), defScope (cm 12 0), [], []⟩
def d20 : He.DefD := ⟨(("Mine" : Str), some ("fits" : Str)), ("fits" : Str), ("Mine.fits" : Str), defArgs (cm 13 0), defBody (cm 13 0), defScope (cm 13 0), [], []⟩
def d21 : He.DefD := ⟨(("Marked" : Str), some ("__init__" : Str)), ("__init__" : Str), ("Marked.__init__" : Str), defArgs (cm 14 0), defBody (cm 14 0), defScope (cm 14 0), [], []⟩
def d22 : He.DefD := ⟨(("Marked" : Str), some ("fits" : Str)), ("fits" : Str), ("Marked.fits" : Str), defArgs (cm 14 1), defBody (cm 14 1), defScope (cm 14 1), [], []⟩
def d23 : He.DefD := ⟨(("Strong" : Str), some ("__init__" : Str)), ("__init__" : Str), ("Strong.__init__" : Str), defArgs (cm 15 0), defBody (cm 15 0), defScope (cm 15 0), [], []⟩
def d24 : He.DefD := ⟨(("Strong" : Str), some ("fits" : Str)), ("fits" : Str), ("Strong.fits" : Str), defArgs (cm 15 1), defBody (cm 15 1), defScope (cm 15 1), [], []⟩
def d25 : He.DefD := ⟨(("Others" : Str), some ("__init__" : Str)), ("__init__" : Str), ("Others.__init__" : Str), defArgs (cm 16 0), defBody (cm 16 0), defScope (cm 16 0), [], []⟩
def d26 : He.DefD := ⟨(("Others" : Str), some ("fits" : Str)), ("fits" : Str), ("Others.fits" : Str), defArgs (cm 16 1), defBody (cm 16 1), defScope (cm 16 1), [], []⟩
def d27 : He.DefD := ⟨(("Pair" : Str), some ("__init__" : Str)), ("__init__" : Str), ("Pair.__init__" : Str), defArgs (cm 17 0), defBody (cm 17 0), defScope (cm 17 0), [], []⟩
def d28 : He.DefD := ⟨(("Pair" : Str), some ("fits" : Str)), ("fits" : Str), ("Pair.fits" : Str), defArgs (cm 17 1), defBody (cm 17 1), defScope (cm 17 1), [], []⟩
def fn : List He.DefD := [d0, d1, d2, d3, d4, d5, d6, d7, d8, d9, d10, d11, d12, d13, d14, d15, d16, d17, d18, d19, d20, d21, d22, d23, d24, d25, d26, d27, d28]
def fa : List He.Fa := [.glo ("is_name" : Str), .glo ("is_number" : Str), .glo ("row_of" : Str), .glo ("word_at" : Str), .glo ("name_at" : Str), .glo ("number_at" : Str), .glo ("part_at" : Str), .glo ("whom_at" : Str), .glo ("read_whom" : Str), .glo ("_law_take" : Str), .glo ("_law_names" : Str), .glo ("_law_leaf" : Str), .glo ("_law_whom" : Str), .glo ("_law_sight" : Str), .glo ("_law_row" : Str), .glo ("_law_fits" : Str), .glo ("_law_right" : Str), .glo ("law" : Str), .free ("len" : Str), .free ("list" : Str), .free ("tuple" : Str), .free ("int" : Str), .free ("str" : Str), .free ("min" : Str), .free ("max" : Str), .free ("isinstance" : Str), .free ("bool" : Str), .free ("dict" : Str), .free ("range" : Str), .free ("sorted" : Str), .free ("all" : Str), .free ("set" : Str), .free ("enumerate" : Str), .str ("LETTERS" : Str) ("abcdefghijklmnopqrstuvwxyz" : Str), .str ("FIGURES" : Str) ("0123456789" : Str), .int ("MOST_WORDS" : Str) (9), .glo ("Whom" : Str), .cls ("Whom" : Str), .meth ("Whom" : Str) ("fits" : Str), .glo ("Itself" : Str), .cls ("Itself" : Str), .meth ("Itself" : Str) ("fits" : Str), .glo ("Mine" : Str), .cls ("Mine" : Str), .meth ("Mine" : Str) ("fits" : Str), .glo ("Marked" : Str), .cls ("Marked" : Str), .noat ("Marked" : Str) ("name" : Str), .meth ("Marked" : Str) ("fits" : Str), .mkr ("Marked" : Str), .glo ("Strong" : Str), .cls ("Strong" : Str), .noat ("Strong" : Str) ("least" : Str), .meth ("Strong" : Str) ("fits" : Str), .mkr ("Strong" : Str), .glo ("Others" : Str), .cls ("Others" : Str), .noat ("Others" : Str) ("part" : Str), .meth ("Others" : Str) ("fits" : Str), .mkr ("Others" : Str), .glo ("Pair" : Str), .cls ("Pair" : Str), .noat ("Pair" : Str) ("word" : Str), .noat ("Pair" : Str) ("one" : Str), .noat ("Pair" : Str) ("other" : Str), .meth ("Pair" : Str) ("fits" : Str), .mkr ("Pair" : Str)]
def fm : List Fm := [.mk0 ("Whom" : Str), .isk ("Whom" : Str), .mk0 ("Itself" : Str), .isk ("Itself" : Str), .mk0 ("Mine" : Str), .isk ("Mine" : Str), .isk ("Marked" : Str), .isk ("Strong" : Str), .isk ("Others" : Str), .isk ("Pair" : Str)]
def ts : List (Str × List Str) := []
def adr (K : PySem.W.Frag) (j : Nat) : Addr := He.fAd K (fn.getD j d0).at_
abbrev R : PySem.W.OpenRow := PySem.W.OpenLaw.row PySem.Challenge.rw_turnstack_k03_what_fits
abbrev hk : PySem.W.Hook := hookM 6 fa fn fm ts
def ob (s : PySem.W.SharedT) : AlM := obsM 6 fa fn fm ts (HandSHeadRun.getT s)
theorem ob_eq (s : PySem.W.SharedT) : ob s = hk.obs s.abs := obsM_eq (HandSHeadRun.getT_eq s)
def names : List PySem.Str := [("_wall" : Str), ("FightError" : Str), ("NoCard" : Str), ("LETTERS" : Str), ("FIGURES" : Str), ("MOST_WORDS" : Str), ("is_name" : Str), ("is_number" : Str), ("row_of" : Str), ("Whom" : Str), ("Itself" : Str), ("Mine" : Str), ("Marked" : Str), ("Strong" : Str), ("Others" : Str), ("Pair" : Str), ("word_at" : Str), ("name_at" : Str), ("number_at" : Str), ("part_at" : Str), ("whom_at" : Str), ("read_whom" : Str), ("_law_take" : Str), ("_law_names" : Str), ("_law_leaf" : Str), ("_law_whom" : Str), ("_law_sight" : Str), ("_law_row" : Str), ("_law_fits" : Str), ("_law_right" : Str)]
theorem runA (w : World) : RunA R (PySem.W.view R.prog [33]) 6000 names w := by
  intro os
  kernel_rfl
theorem runB (w : World) : RunB R hk ob 6000 w := by
  intro os
  kernel_rfl
theorem run (w : World) : HandSHeadRun.RunEq R (PySem.W.view R.prog [33]) hk ob 6000 names w := run_of (runA w) (runB w)
theorem blt_free {w : World} {K : PySem.W.Frag} {h : Heap} {mg : Str → Option Value} (X : K.In h) (Gn : h.Ns mainGlobals mg) (c : SaysM fa fn fm ts w K) : ∀ x, bltB x = true → mg x = none := by
  intro x h
  have hx := bltB_names h
  simp only [bltNames, List.mem_cons, List.not_mem_nil, or_false] at hx
  rcases hx with rfl | rfl | rfl | rfl | rfl | rfl | rfl | rfl | rfl | rfl | rfl | rfl | rfl | rfl | rfl
  · exact He.free_ok X Gn (c.d.fact 18 rfl)
  · exact He.free_ok X Gn (c.d.fact 19 rfl)
  · exact He.free_ok X Gn (c.d.fact 20 rfl)
  · exact He.free_ok X Gn (c.d.fact 21 rfl)
  · exact He.free_ok X Gn (c.d.fact 22 rfl)
  · exact He.free_ok X Gn (c.d.fact 23 rfl)
  · exact He.free_ok X Gn (c.d.fact 24 rfl)
  · exact He.free_ok X Gn (c.d.fact 25 rfl)
  · exact He.free_ok X Gn (c.d.fact 26 rfl)
  · exact He.free_ok X Gn (c.d.fact 27 rfl)
  · exact He.free_ok X Gn (c.d.fact 28 rfl)
  · exact He.free_ok X Gn (c.d.fact 29 rfl)
  · exact He.free_ok X Gn (c.d.fact 30 rfl)
  · exact He.free_ok X Gn (c.d.fact 31 rfl)
  · exact He.free_ok X Gn (c.d.fact 32 rfl)
theorem dyn {w : World} {K : PySem.W.Frag} (c : SaysM fa fn fm ts w K) : ∀ (i : Nat) (e : Ent), E[i]? = some e → ∃ fd, EntAt K e (adr K i) fd := by
  intro i e h
  match i, h with
  | 0, h =>
    cases h
    obtain ⟨fd, F⟩ := c.d.def_ 0 (d := d0) rfl
    exact ⟨fd, ⟨_, F⟩, fun j => ⟨[], by cases j <;> exact .nil, F.bindsN fun _ _ _ _ _ _ us hl => match us, hl with | [_], _ => rfl⟩⟩
  | 1, h =>
    cases h
    obtain ⟨fd, F⟩ := c.d.def_ 1 (d := d1) rfl
    exact ⟨fd, ⟨_, F⟩, fun j => ⟨[], by cases j <;> exact .nil, F.bindsN fun _ _ _ _ _ _ us hl => match us, hl with | [_], _ => rfl⟩⟩
  | 2, h =>
    cases h
    obtain ⟨fd, F⟩ := c.d.def_ 2 (d := d2) rfl
    exact ⟨fd, ⟨_, F⟩, fun j => ⟨[], by cases j <;> exact .nil, F.bindsN fun _ _ _ _ _ _ us hl => match us, hl with | [_, _], _ => rfl⟩⟩
  | 3, h =>
    cases h
    obtain ⟨fd, F⟩ := c.d.def_ 3 (d := d3) rfl
    exact ⟨fd, ⟨_, F⟩, fun j => ⟨[], by cases j <;> exact .nil, F.bindsN fun _ _ _ _ _ _ us hl => match us, hl with | [_, _], _ => rfl⟩⟩
  | 4, h =>
    cases h
    obtain ⟨fd, F⟩ := c.d.def_ 4 (d := d4) rfl
    exact ⟨fd, ⟨_, F⟩, fun j => ⟨[], by cases j <;> exact .nil, F.bindsN fun _ _ _ _ _ _ us hl => match us, hl with | [_, _], _ => rfl⟩⟩
  | 5, h =>
    cases h
    obtain ⟨fd, F⟩ := c.d.def_ 5 (d := d5) rfl
    exact ⟨fd, ⟨_, F⟩, fun j => ⟨[], by cases j <;> exact .nil, F.bindsN fun _ _ _ _ _ _ us hl => match us, hl with | [_, _], _ => rfl⟩⟩
  | 6, h =>
    cases h
    obtain ⟨fd, F⟩ := c.d.def_ 6 (d := d6) rfl
    exact ⟨fd, ⟨_, F⟩, fun j => ⟨[], by cases j <;> exact .nil, F.bindsN fun _ _ _ _ _ _ us hl => match us, hl with | [_, _, _], _ => rfl⟩⟩
  | 7, h =>
    cases h
    obtain ⟨fd, F⟩ := c.d.def_ 7 (d := d7) rfl
    exact ⟨fd, ⟨_, F⟩, fun j => ⟨[], by cases j <;> exact .nil, F.bindsN fun _ _ _ _ _ _ us hl => match us, hl with | [_, _], _ => rfl⟩⟩
  | 8, h =>
    cases h
    obtain ⟨fd, F⟩ := c.d.def_ 8 (d := d8) rfl
    exact ⟨fd, ⟨_, F⟩, fun j => ⟨[], by cases j <;> exact .nil, F.bindsN fun _ _ _ _ _ _ us hl => match us, hl with | [_], _ => rfl⟩⟩
  | 9, h =>
    cases h
    obtain ⟨fd, F⟩ := c.d.def_ 9 (d := d9) rfl
    exact ⟨fd, ⟨_, F⟩, fun j => ⟨[], by cases j <;> exact .nil, F.bindsN fun _ _ _ _ _ _ us hl => match us, hl with | [_, _], _ => rfl⟩⟩
  | 10, h =>
    cases h
    obtain ⟨fd, F⟩ := c.d.def_ 10 (d := d10) rfl
    exact ⟨fd, ⟨_, F⟩, fun j => ⟨[], by cases j <;> exact .nil, F.bindsN fun _ _ _ _ _ _ us hl => match us, hl with | [_, _], _ => rfl⟩⟩
  | 11, h =>
    cases h
    obtain ⟨fd, F⟩ := c.d.def_ 11 (d := d11) rfl
    exact ⟨fd, ⟨_, F⟩, fun j => ⟨[], by cases j <;> exact .nil, F.bindsN fun _ _ _ _ _ _ us hl => match us, hl with | [_, _], _ => rfl⟩⟩
  | 12, h =>
    cases h
    obtain ⟨fd, F⟩ := c.d.def_ 12 (d := d12) rfl
    exact ⟨fd, ⟨_, F⟩, fun j => ⟨[], by cases j <;> exact .nil, F.bindsN fun _ _ _ _ _ _ us hl => match us, hl with | [_, _, _], _ => rfl⟩⟩
  | 13, h =>
    cases h
    obtain ⟨fd, F⟩ := c.d.def_ 13 (d := d13) rfl
    exact ⟨fd, ⟨_, F⟩, fun j => ⟨[], by cases j <;> exact .nil, F.bindsN fun _ _ _ _ _ _ us hl => match us, hl with | [_, _], _ => rfl⟩⟩
  | 14, h =>
    cases h
    obtain ⟨fd, F⟩ := c.d.def_ 14 (d := d14) rfl
    exact ⟨fd, ⟨_, F⟩, fun j => ⟨[], by cases j <;> exact .nil, F.bindsN fun _ _ _ _ _ _ us hl => match us, hl with | [_, _], _ => rfl⟩⟩
  | 15, h =>
    cases h
    obtain ⟨fd, F⟩ := c.d.def_ 15 (d := d15) rfl
    exact ⟨fd, ⟨_, F⟩, fun j => ⟨[], by cases j <;> exact .nil, F.bindsN fun _ _ _ _ _ _ us hl => match us, hl with | [_, _, _, _], _ => rfl⟩⟩
  | 16, h =>
    cases h
    obtain ⟨fd, F⟩ := c.d.def_ 16 (d := d16) rfl
    exact ⟨fd, ⟨_, F⟩, fun j => ⟨[], by cases j <;> exact .nil, F.bindsN fun _ _ _ _ _ _ us hl => match us, hl with | [_, _, _, _, _], _ => rfl⟩⟩
  | 17, h =>
    cases h
    obtain ⟨fd, F⟩ := c.d.def_ 17 (d := d17) rfl
    exact ⟨fd, ⟨_, F⟩, fun j => ⟨[], by cases j <;> exact .nil, F.bindsN fun _ _ _ _ _ _ us hl => match us, hl with | [_], _ => rfl⟩⟩
  | 18, h =>
    cases h
    obtain ⟨fd, F⟩ := c.d.def_ 18 (d := d18) rfl
    exact ⟨fd, ⟨_, F⟩, fun j => ⟨[], by cases j <;> exact .nil, F.bindsN fun _ _ _ _ _ _ us hl => match us, hl with | [_, _, _, _, _], _ => rfl⟩⟩
  | 19, h =>
    cases h
    obtain ⟨fd, F⟩ := c.d.def_ 19 (d := d19) rfl
    exact ⟨fd, ⟨_, F⟩, fun j => ⟨[], by cases j <;> exact .nil, F.bindsN fun _ _ _ _ _ _ us hl => match us, hl with | [_, _, _, _, _], _ => rfl⟩⟩
  | 20, h =>
    cases h
    obtain ⟨fd, F⟩ := c.d.def_ 20 (d := d20) rfl
    exact ⟨fd, ⟨_, F⟩, fun j => ⟨[], by cases j <;> exact .nil, F.bindsN fun _ _ _ _ _ _ us hl => match us, hl with | [_, _, _, _, _], _ => rfl⟩⟩
  | 21, h =>
    cases h
    obtain ⟨fd, F⟩ := c.d.def_ 21 (d := d21) rfl
    exact ⟨fd, ⟨_, F⟩, fun j => ⟨[], by cases j <;> exact .nil, F.bindsN fun _ _ _ _ _ _ us hl => match us, hl with | [_, _], _ => rfl⟩⟩
  | 22, h =>
    cases h
    obtain ⟨fd, F⟩ := c.d.def_ 22 (d := d22) rfl
    exact ⟨fd, ⟨_, F⟩, fun j => ⟨[], by cases j <;> exact .nil, F.bindsN fun _ _ _ _ _ _ us hl => match us, hl with | [_, _, _, _, _], _ => rfl⟩⟩
  | 23, h =>
    cases h
    obtain ⟨fd, F⟩ := c.d.def_ 23 (d := d23) rfl
    exact ⟨fd, ⟨_, F⟩, fun j => ⟨[], by cases j <;> exact .nil, F.bindsN fun _ _ _ _ _ _ us hl => match us, hl with | [_, _], _ => rfl⟩⟩
  | 24, h =>
    cases h
    obtain ⟨fd, F⟩ := c.d.def_ 24 (d := d24) rfl
    exact ⟨fd, ⟨_, F⟩, fun j => ⟨[], by cases j <;> exact .nil, F.bindsN fun _ _ _ _ _ _ us hl => match us, hl with | [_, _, _, _, _], _ => rfl⟩⟩
  | 25, h =>
    cases h
    obtain ⟨fd, F⟩ := c.d.def_ 25 (d := d25) rfl
    exact ⟨fd, ⟨_, F⟩, fun j => ⟨[], by cases j <;> exact .nil, F.bindsN fun _ _ _ _ _ _ us hl => match us, hl with | [_, _], _ => rfl⟩⟩
  | 26, h =>
    cases h
    obtain ⟨fd, F⟩ := c.d.def_ 26 (d := d26) rfl
    exact ⟨fd, ⟨_, F⟩, fun j => ⟨[], by cases j <;> exact .nil, F.bindsN fun _ _ _ _ _ _ us hl => match us, hl with | [_, _, _, _, _], _ => rfl⟩⟩
  | 27, h =>
    cases h
    obtain ⟨fd, F⟩ := c.d.def_ 27 (d := d27) rfl
    exact ⟨fd, ⟨_, F⟩, fun j => ⟨[], by cases j <;> exact .nil, F.bindsN fun _ _ _ _ _ _ us hl => match us, hl with | [_, _, _, _], _ => rfl⟩⟩
  | 28, h =>
    cases h
    obtain ⟨fd, F⟩ := c.d.def_ 28 (d := d28) rfl
    exact ⟨fd, ⟨_, F⟩, fun j => ⟨[], by cases j <;> exact .nil, F.bindsN fun _ _ _ _ _ _ us hl => match us, hl with | [_, _, _, _, _], _ => rfl⟩⟩
  | n + 29, h => simp [E] at h
theorem htab {w : World} {K : PySem.W.Frag} {h : Heap} {mg : Str → Option Value} (X : K.In h) (Gn : h.Ns mainGlobals mg) (c : SaysM fa fn fm ts w K) : ∀ (x : Str) (id np : Nat) (df : List Cn), T.tab.lookup x = some (id, np, df) → (x == ("__debug__" : Str)) = false ∧ mg x = some (.ref (adr K id)) ∧ ∃ e, E[id]? = some e ∧ np = e.ps.length ∧ df = e.df := by
  intro x id np df h
  unfold T at h
  simp only at h
  rw [List.lookup_cons] at h
  split at h
  · rename_i e; have e2 := eq_of_beq e; subst e2; cases h
    exact ⟨by decide +kernel, He.glo_ok X Gn (c.d.fact 0 (f := .glo ("is_name" : Str)) rfl), _, rfl, rfl, rfl⟩
  rw [List.lookup_cons] at h
  split at h
  · rename_i e; have e2 := eq_of_beq e; subst e2; cases h
    exact ⟨by decide +kernel, He.glo_ok X Gn (c.d.fact 1 (f := .glo ("is_number" : Str)) rfl), _, rfl, rfl, rfl⟩
  rw [List.lookup_cons] at h
  split at h
  · rename_i e; have e2 := eq_of_beq e; subst e2; cases h
    exact ⟨by decide +kernel, He.glo_ok X Gn (c.d.fact 2 (f := .glo ("row_of" : Str)) rfl), _, rfl, rfl, rfl⟩
  rw [List.lookup_cons] at h
  split at h
  · rename_i e; have e2 := eq_of_beq e; subst e2; cases h
    exact ⟨by decide +kernel, He.glo_ok X Gn (c.d.fact 3 (f := .glo ("word_at" : Str)) rfl), _, rfl, rfl, rfl⟩
  rw [List.lookup_cons] at h
  split at h
  · rename_i e; have e2 := eq_of_beq e; subst e2; cases h
    exact ⟨by decide +kernel, He.glo_ok X Gn (c.d.fact 4 (f := .glo ("name_at" : Str)) rfl), _, rfl, rfl, rfl⟩
  rw [List.lookup_cons] at h
  split at h
  · rename_i e; have e2 := eq_of_beq e; subst e2; cases h
    exact ⟨by decide +kernel, He.glo_ok X Gn (c.d.fact 5 (f := .glo ("number_at" : Str)) rfl), _, rfl, rfl, rfl⟩
  rw [List.lookup_cons] at h
  split at h
  · rename_i e; have e2 := eq_of_beq e; subst e2; cases h
    exact ⟨by decide +kernel, He.glo_ok X Gn (c.d.fact 6 (f := .glo ("part_at" : Str)) rfl), _, rfl, rfl, rfl⟩
  rw [List.lookup_cons] at h
  split at h
  · rename_i e; have e2 := eq_of_beq e; subst e2; cases h
    exact ⟨by decide +kernel, He.glo_ok X Gn (c.d.fact 7 (f := .glo ("whom_at" : Str)) rfl), _, rfl, rfl, rfl⟩
  rw [List.lookup_cons] at h
  split at h
  · rename_i e; have e2 := eq_of_beq e; subst e2; cases h
    exact ⟨by decide +kernel, He.glo_ok X Gn (c.d.fact 8 (f := .glo ("read_whom" : Str)) rfl), _, rfl, rfl, rfl⟩
  rw [List.lookup_cons] at h
  split at h
  · rename_i e; have e2 := eq_of_beq e; subst e2; cases h
    exact ⟨by decide +kernel, He.glo_ok X Gn (c.d.fact 9 (f := .glo ("_law_take" : Str)) rfl), _, rfl, rfl, rfl⟩
  rw [List.lookup_cons] at h
  split at h
  · rename_i e; have e2 := eq_of_beq e; subst e2; cases h
    exact ⟨by decide +kernel, He.glo_ok X Gn (c.d.fact 10 (f := .glo ("_law_names" : Str)) rfl), _, rfl, rfl, rfl⟩
  rw [List.lookup_cons] at h
  split at h
  · rename_i e; have e2 := eq_of_beq e; subst e2; cases h
    exact ⟨by decide +kernel, He.glo_ok X Gn (c.d.fact 11 (f := .glo ("_law_leaf" : Str)) rfl), _, rfl, rfl, rfl⟩
  rw [List.lookup_cons] at h
  split at h
  · rename_i e; have e2 := eq_of_beq e; subst e2; cases h
    exact ⟨by decide +kernel, He.glo_ok X Gn (c.d.fact 12 (f := .glo ("_law_whom" : Str)) rfl), _, rfl, rfl, rfl⟩
  rw [List.lookup_cons] at h
  split at h
  · rename_i e; have e2 := eq_of_beq e; subst e2; cases h
    exact ⟨by decide +kernel, He.glo_ok X Gn (c.d.fact 13 (f := .glo ("_law_sight" : Str)) rfl), _, rfl, rfl, rfl⟩
  rw [List.lookup_cons] at h
  split at h
  · rename_i e; have e2 := eq_of_beq e; subst e2; cases h
    exact ⟨by decide +kernel, He.glo_ok X Gn (c.d.fact 14 (f := .glo ("_law_row" : Str)) rfl), _, rfl, rfl, rfl⟩
  rw [List.lookup_cons] at h
  split at h
  · rename_i e; have e2 := eq_of_beq e; subst e2; cases h
    exact ⟨by decide +kernel, He.glo_ok X Gn (c.d.fact 15 (f := .glo ("_law_fits" : Str)) rfl), _, rfl, rfl, rfl⟩
  rw [List.lookup_cons] at h
  split at h
  · rename_i e; have e2 := eq_of_beq e; subst e2; cases h
    exact ⟨by decide +kernel, He.glo_ok X Gn (c.d.fact 16 (f := .glo ("_law_right" : Str)) rfl), _, rfl, rfl, rfl⟩
  rw [List.lookup_cons] at h
  split at h
  · rename_i e; have e2 := eq_of_beq e; subst e2; cases h
    exact ⟨by decide +kernel, He.glo_ok X Gn (c.d.fact 17 (f := .glo ("law" : Str)) rfl), _, rfl, rfl, rfl⟩
  simp at h
theorem hcls {w : World} {K : PySem.W.Frag} {h : Heap} {mg : Str → Option Value} (X : K.In h) (Gn : h.Ns mainGlobals mg) (c : SaysM fa fn fm ts w K) : ∀ (x : Str) (ci : Nat), T.cls.lookup x = some ci → (x == ("__debug__" : Str)) = false ∧ mg x = some (.ref (cA K ci)) ∧ ((∃ f e, G.init ci = some f ∧ E[f]? = some e ∧ Mk K (cA K ci) (adr K f)) ∨ (G.init ci = none ∧ Mk0 K (cA K ci))) := by
  intro x ci h
  unfold T at h
  simp only at h
  rw [List.lookup_cons] at h
  split at h
  · rename_i e; have e2 := eq_of_beq e; subst e2; cases h
    exact ⟨by decide +kernel, He.glo_ok X Gn (c.d.fact 36 (f := .glo ("Whom" : Str)) rfl), .inr ⟨rfl, Fm.mk0_ok (c.own 0 (f := .mk0 ("Whom" : Str)) rfl)⟩⟩
  rw [List.lookup_cons] at h
  split at h
  · rename_i e; have e2 := eq_of_beq e; subst e2; cases h
    exact ⟨by decide +kernel, He.glo_ok X Gn (c.d.fact 39 (f := .glo ("Itself" : Str)) rfl), .inr ⟨rfl, Fm.mk0_ok (c.own 2 (f := .mk0 ("Itself" : Str)) rfl)⟩⟩
  rw [List.lookup_cons] at h
  split at h
  · rename_i e; have e2 := eq_of_beq e; subst e2; cases h
    exact ⟨by decide +kernel, He.glo_ok X Gn (c.d.fact 42 (f := .glo ("Mine" : Str)) rfl), .inr ⟨rfl, Fm.mk0_ok (c.own 4 (f := .mk0 ("Mine" : Str)) rfl)⟩⟩
  rw [List.lookup_cons] at h
  split at h
  · rename_i e; have e2 := eq_of_beq e; subst e2; cases h
    exact ⟨by decide +kernel, He.glo_ok X Gn (c.d.fact 45 (f := .glo ("Marked" : Str)) rfl), .inl ⟨21, _, rfl, rfl, He.mkr_ok (c.d.fact 49 (f := .mkr ("Marked" : Str)) rfl)⟩⟩
  rw [List.lookup_cons] at h
  split at h
  · rename_i e; have e2 := eq_of_beq e; subst e2; cases h
    exact ⟨by decide +kernel, He.glo_ok X Gn (c.d.fact 50 (f := .glo ("Strong" : Str)) rfl), .inl ⟨23, _, rfl, rfl, He.mkr_ok (c.d.fact 54 (f := .mkr ("Strong" : Str)) rfl)⟩⟩
  rw [List.lookup_cons] at h
  split at h
  · rename_i e; have e2 := eq_of_beq e; subst e2; cases h
    exact ⟨by decide +kernel, He.glo_ok X Gn (c.d.fact 55 (f := .glo ("Others" : Str)) rfl), .inl ⟨25, _, rfl, rfl, He.mkr_ok (c.d.fact 59 (f := .mkr ("Others" : Str)) rfl)⟩⟩
  rw [List.lookup_cons] at h
  split at h
  · rename_i e; have e2 := eq_of_beq e; subst e2; cases h
    exact ⟨by decide +kernel, He.glo_ok X Gn (c.d.fact 60 (f := .glo ("Pair" : Str)) rfl), .inl ⟨27, _, rfl, rfl, He.mkr_ok (c.d.fact 66 (f := .mkr ("Pair" : Str)) rfl)⟩⟩
  simp at h
theorem hmeth {w : World} {K : PySem.W.Frag} (c : SaysM fa fn fm ts w K) : ∀ ci m f, G.meths ci m = some f → Cls K (cA K ci) ∧ Meth K (cA K ci) m (adr K f) ∧ ∃ e, E[f]? = some e := by
  intro ci m f h
  have h : (if ci < 1000000000 then (mTab.getD (ci % 1000) []).lookup m else none) = some f := h
  split at h
  case isFalse => cases h
  unfold cA
  generalize ci % 1000 = ci at *
  match ci, h with
  | 0, h =>
    have h : ([(("fits" : Str), 18)] : List (Str × Nat)).lookup m = some f := h
    rw [List.lookup_cons] at h
    split at h
    · rename_i e; have e2 := eq_of_beq e; subst e2; cases h
      exact ⟨He.cls_ok (c.d.fact 37 (f := .cls ("Whom" : Str)) rfl), He.meth_ok (c.d.fact 38 (f := .meth ("Whom" : Str) ("fits" : Str)) rfl), _, rfl⟩
    simp at h
  | 1, h =>
    have h : ([(("fits" : Str), 19)] : List (Str × Nat)).lookup m = some f := h
    rw [List.lookup_cons] at h
    split at h
    · rename_i e; have e2 := eq_of_beq e; subst e2; cases h
      exact ⟨He.cls_ok (c.d.fact 40 (f := .cls ("Itself" : Str)) rfl), He.meth_ok (c.d.fact 41 (f := .meth ("Itself" : Str) ("fits" : Str)) rfl), _, rfl⟩
    simp at h
  | 2, h =>
    have h : ([(("fits" : Str), 20)] : List (Str × Nat)).lookup m = some f := h
    rw [List.lookup_cons] at h
    split at h
    · rename_i e; have e2 := eq_of_beq e; subst e2; cases h
      exact ⟨He.cls_ok (c.d.fact 43 (f := .cls ("Mine" : Str)) rfl), He.meth_ok (c.d.fact 44 (f := .meth ("Mine" : Str) ("fits" : Str)) rfl), _, rfl⟩
    simp at h
  | 3, h =>
    have h : ([(("fits" : Str), 22)] : List (Str × Nat)).lookup m = some f := h
    rw [List.lookup_cons] at h
    split at h
    · rename_i e; have e2 := eq_of_beq e; subst e2; cases h
      exact ⟨He.cls_ok (c.d.fact 46 (f := .cls ("Marked" : Str)) rfl), He.meth_ok (c.d.fact 48 (f := .meth ("Marked" : Str) ("fits" : Str)) rfl), _, rfl⟩
    simp at h
  | 4, h =>
    have h : ([(("fits" : Str), 24)] : List (Str × Nat)).lookup m = some f := h
    rw [List.lookup_cons] at h
    split at h
    · rename_i e; have e2 := eq_of_beq e; subst e2; cases h
      exact ⟨He.cls_ok (c.d.fact 51 (f := .cls ("Strong" : Str)) rfl), He.meth_ok (c.d.fact 53 (f := .meth ("Strong" : Str) ("fits" : Str)) rfl), _, rfl⟩
    simp at h
  | 5, h =>
    have h : ([(("fits" : Str), 26)] : List (Str × Nat)).lookup m = some f := h
    rw [List.lookup_cons] at h
    split at h
    · rename_i e; have e2 := eq_of_beq e; subst e2; cases h
      exact ⟨He.cls_ok (c.d.fact 56 (f := .cls ("Others" : Str)) rfl), He.meth_ok (c.d.fact 58 (f := .meth ("Others" : Str) ("fits" : Str)) rfl), _, rfl⟩
    simp at h
  | 6, h =>
    have h : ([(("fits" : Str), 28)] : List (Str × Nat)).lookup m = some f := h
    rw [List.lookup_cons] at h
    split at h
    · rename_i e; have e2 := eq_of_beq e; subst e2; cases h
      exact ⟨He.cls_ok (c.d.fact 61 (f := .cls ("Pair" : Str)) rfl), He.meth_ok (c.d.fact 65 (f := .meth ("Pair" : Str) ("fits" : Str)) rfl), _, rfl⟩
    simp at h
  | n + 7, h => have h : ([] : List (Str × Nat)).lookup m = some f := h; cases h
theorem hfld {w : World} {K : PySem.W.Frag} (c : SaysM fa fn fm ts w K) : ∀ ci n, G.flds ci n = true → Cls K (cA K ci) ∧ NoAttr K (cA K ci) n := by
  intro ci n h
  have h : (decide (ci < 1000000000) && (fTab.getD (ci % 1000) []).contains n) = true := h
  have h := (Bool.and_eq_true _ _ ▸ h).2
  unfold cA
  generalize ci % 1000 = ci at *
  match ci, h with
  | 0, h => have h : ([] : List Str).contains n = true := h; cases h
  | 1, h => have h : ([] : List Str).contains n = true := h; cases h
  | 2, h => have h : ([] : List Str).contains n = true := h; cases h
  | 3, h =>
    have h : ([("name" : Str)] : List Str).contains n = true := h
    have hx : n = ("name" : Str) := by simpa using h
    rcases hx with rfl
    · exact ⟨He.cls_ok (c.d.fact 46 (f := .cls ("Marked" : Str)) rfl), He.noat_ok (c.d.fact 47 (f := .noat ("Marked" : Str) ("name" : Str)) rfl)⟩
  | 4, h =>
    have h : ([("least" : Str)] : List Str).contains n = true := h
    have hx : n = ("least" : Str) := by simpa using h
    rcases hx with rfl
    · exact ⟨He.cls_ok (c.d.fact 51 (f := .cls ("Strong" : Str)) rfl), He.noat_ok (c.d.fact 52 (f := .noat ("Strong" : Str) ("least" : Str)) rfl)⟩
  | 5, h =>
    have h : ([("part" : Str)] : List Str).contains n = true := h
    have hx : n = ("part" : Str) := by simpa using h
    rcases hx with rfl
    · exact ⟨He.cls_ok (c.d.fact 56 (f := .cls ("Others" : Str)) rfl), He.noat_ok (c.d.fact 57 (f := .noat ("Others" : Str) ("part" : Str)) rfl)⟩
  | 6, h =>
    have h : ([("word" : Str), ("one" : Str), ("other" : Str)] : List Str).contains n = true := h
    have hx : n = ("word" : Str) ∨ n = ("one" : Str) ∨ n = ("other" : Str) := by simpa using h
    rcases hx with rfl | rfl | rfl
    · exact ⟨He.cls_ok (c.d.fact 61 (f := .cls ("Pair" : Str)) rfl), He.noat_ok (c.d.fact 62 (f := .noat ("Pair" : Str) ("word" : Str)) rfl)⟩
    · exact ⟨He.cls_ok (c.d.fact 61 (f := .cls ("Pair" : Str)) rfl), He.noat_ok (c.d.fact 63 (f := .noat ("Pair" : Str) ("one" : Str)) rfl)⟩
    · exact ⟨He.cls_ok (c.d.fact 61 (f := .cls ("Pair" : Str)) rfl), He.noat_ok (c.d.fact 64 (f := .noat ("Pair" : Str) ("other" : Str)) rfl)⟩
  | cj + 7, h => have h : ([] : List Str).contains n = true := h; cases h
theorem hisk {w : World} {K : PySem.W.Frag} (c : SaysM fa fn fm ts w K) : ∀ ci ∈ T.isk, IsK K (cA K ci) := by
  intro ci h
  have hx : ci = 0 ∨ ci = 1 ∨ ci = 2 ∨ ci = 3 ∨ ci = 4 ∨ ci = 5 ∨ ci = 6 := by simpa [T] using h
  rcases hx with rfl | rfl | rfl | rfl | rfl | rfl | rfl
  · exact Fm.isk_ok (He.cls_ok (c.d.fact 37 (f := .cls ("Whom" : Str)) rfl)) (c.own 1 (f := .isk ("Whom" : Str)) rfl)
  · exact Fm.isk_ok (He.cls_ok (c.d.fact 40 (f := .cls ("Itself" : Str)) rfl)) (c.own 3 (f := .isk ("Itself" : Str)) rfl)
  · exact Fm.isk_ok (He.cls_ok (c.d.fact 43 (f := .cls ("Mine" : Str)) rfl)) (c.own 5 (f := .isk ("Mine" : Str)) rfl)
  · exact Fm.isk_ok (He.cls_ok (c.d.fact 46 (f := .cls ("Marked" : Str)) rfl)) (c.own 6 (f := .isk ("Marked" : Str)) rfl)
  · exact Fm.isk_ok (He.cls_ok (c.d.fact 51 (f := .cls ("Strong" : Str)) rfl)) (c.own 7 (f := .isk ("Strong" : Str)) rfl)
  · exact Fm.isk_ok (He.cls_ok (c.d.fact 56 (f := .cls ("Others" : Str)) rfl)) (c.own 8 (f := .isk ("Others" : Str)) rfl)
  · exact Fm.isk_ok (He.cls_ok (c.d.fact 61 (f := .cls ("Pair" : Str)) rfl)) (c.own 9 (f := .isk ("Pair" : Str)) rfl)
theorem hcons {w : World} {K : PySem.W.Frag} {h : Heap} {mg : Str → Option Value} (X : K.In h) (Gn : h.Ns mainGlobals mg) (c : SaysM fa fn fm ts w K) : ∀ x, T.cons.contains x = true → ∃ v u d, mg x = some u ∧ RelV v u ∧ G.consts.lookup x = some d ∧ (∀ S H, Rep K (cA K) S H d v []) ∧ (x == ("__debug__" : Str)) = false := by
  intro x h
  have hx : x = ("LETTERS" : Str) ∨ x = ("FIGURES" : Str) ∨ x = ("MOST_WORDS" : Str) := by simpa [T] using h
  rcases hx with rfl | rfl | rfl
  · obtain ⟨t, e⟩ := He.str_ok X Gn (c.d.fact 33 (f := .str ("LETTERS" : Str) ("abcdefghijklmnopqrstuvwxyz" : Str)) rfl)
    exact ⟨.str ("abcdefghijklmnopqrstuvwxyz" : Str), _, _, e, ⟨t, rfl⟩, by kernel_rfl, fun _ _ => .str _, by decide +kernel⟩
  · obtain ⟨t, e⟩ := He.str_ok X Gn (c.d.fact 34 (f := .str ("FIGURES" : Str) ("0123456789" : Str)) rfl)
    exact ⟨.str ("0123456789" : Str), _, _, e, ⟨t, rfl⟩, by kernel_rfl, fun _ _ => .str _, by decide +kernel⟩
  · obtain ⟨t, e⟩ := He.int_ok X Gn (c.d.fact 35 (f := .int ("MOST_WORDS" : Str) (9)) rfl)
    exact ⟨.int (9), _, _, e, ⟨t, rfl⟩, by kernel_rfl, fun _ _ => .int _, by decide +kernel⟩
theorem hdct {w : World} {K : PySem.W.Frag} {h : Heap} {mg : Str → Option Value} (X : K.In h) (Gn : h.Ns mainGlobals mg) (c : SaysM fa fn fm ts w K) : ∀ x, T.dcts.contains x = true → ∃ a, mg x = some (.ref a) ∧ (x == ("__debug__" : Str)) = false ∧ ∀ kv, G.dcts.lookup x = some kv → ∀ z d, kv.lookup z = some d → ∃ v, KDct K w a z v ∧ ∀ S H, Rep K (cA K) S H d v [] := by
  intro x h
  simp [T] at h
def spLaw (K : PySem.W.Frag) : Sp := fun vs H Q _ => ∃ (a : Addr) (ns : List Int), vs = [.ref a] ∧ ns.length ≤ 63 ∧ SqL K H a (ns.map V.int) ∧ ∀ H', Q (.bl true) H'
theorem ints_reps {K : PySem.W.Frag} {cB : Nat → Addr} {S H : Hp} : ∀ (ns : List Int), Reps K cB S H (ns.map D.int) (ns.map V.int) []
  | [] => .nil
  | n :: ns => .cons (F := []) (Fs := []) (.int n) (ints_reps ns)
theorem ints_fz : ∀ (ns : List Int), fzs (ns.map D.int) = true
  | [] => rfl
  | n :: ns => by simp [ints_fz ns]
theorem envk {w : World} {K : PySem.W.Frag} {h : Heap} {mg : Str → Option Value} (X : K.In h) (Gn : h.Ns mainGlobals mg) (c : SaysM fa fn fm ts w K) : Env0k w K mg (cA K) (adr K) G fns E T 60 := ⟨stat, dyn c, htab X Gn c, blt_free X Gn c, hcons X Gn c, hisk c, hfld c, hmeth c, hcls X Gn c, hdct X Gn c⟩
theorem law_fn {P : Program} {w : World} {K : PySem.W.Frag} {mg : Str → Option Value} {h : Heap} {f : Addr} (X : K.In h) (Gn : h.Ns mainGlobals mg) (hfa : mg ("law" : Str) = some (.ref f)) (c : SaysM fa fn fm ts w K) :
    ∃ fd : FuncData, (∀ (s : Shared) (v : Value), BindsTo s fd ⟨[v], []⟩ [(("_law_script" : Str), v)]) ∧ ∀ base : Heap, FnOk P w K mg base CX0 90 f fd [("_law_script" : Str)] (spLaw K) := by
  obtain ⟨fd, F⟩ := c.d.def_ 17 (d := d17) rfl
  have e := hfa.symm.trans (He.glo_ok X Gn (c.d.fact 17 (f := .glo "law") rfl))
  cases e
  have b := FunD.bindsA (ps := [("_law_script" : Str)]) F fun _ _ _ _ _ _ us hl => match us, hl with | [_], _ => rfl
  have hat : EntAt K e17 (adr K 17) fd := ⟨⟨_, F⟩, fun j => ⟨[], by cases j <;> exact .nil, F.bindsN fun _ _ _ _ _ _ us hl => match us, hl with | [_], _ => rfl⟩⟩
  refine ⟨fd, fun s v => b s [v] rfl, fun base => ?_⟩
  have main := fns_ok (P := P) (w := w) (base := base) (envk X Gn c) 45 17 e17 fd rfl hat
  refine main.imp fun vs H Q E ⟨a, ns, e, hl, hS, hQ⟩ => ?_
  subst e
  obtain ⟨ds', hev⟩ := plain ns hl
  refine ⟨H, [.nd .scr false (ns.map .int)], [], .bl true, ds', fun _ _ e => e, ?_, List.nodup_nil, by simp, hev, rfl, fun v S' H' Fd F' _ _ rv _ _ _ _ _ => ?_⟩
  · exact .cons (F := []) (Fs := []) (.fz (by decide) hS (ints_reps ns) (ints_fz ns)) .nil
  · cases rv
    exact hQ H'
end K03
end TK
open PySem PySem.W PySem.Calls PyProof.Rows
theorem PySem.Challenge.cw_turnstack_k03_what_fits_holds : PySem.Challenge.rw_turnstack_k03_what_fits.Holds := by
  w_on; o_law
  refine HandSHeadRun.head_any (r := OpenLaw.row PySem.Challenge.rw_turnstack_k03_what_fits) (q := view (OpenLaw.row PySem.Challenge.rw_turnstack_k03_what_fits).prog [33]) (H := TK.K03.hk) (ob := TK.K03.ob) (M := 6000) (loose := TK.K03.names) (d := HandSHeadRun.topDef (OpenLaw.row PySem.Challenge.rw_turnstack_k03_what_fits).prog 33) (kwd := []) TK.K03.ob_eq
    (by kernel_rfl) (fun s => by kernel_rfl) TK.K03.run (by kernel_rfl) (by kernel_rfl) (by kernel_rfl) (by rfl) (by first | assumption | decide +kernel) (by decide +kernel) ⟨rfl, rfl, rfl, rfl, rfl, by decide +kernel⟩ ?hw ?hc
  case hw => w_witness2
  case hc =>
    refine L2.walk_ofE (l := PySem.Challenge.rw_turnstack_k03_what_fits) (n := 63) (k := 90) (x := ("_law_script" : Str)) (CX := L2.CX0) rfl (by decide) (by kernel_rfl) ⟨rfl, by decide, by decide⟩ ?F (fun _ _ _ _ z => z)
    intro w mg fa h Y Gn hmg0
    obtain ⟨K, KX, c⟩ := Y
    have hmg : mg ("law" : PySem.Str) = some (.ref fa) := by
      have e : (HandSHeadRun.topDef (OpenLaw.row PySem.Challenge.rw_turnstack_k03_what_fits).prog 33).name = ("law" : PySem.Str) := by kernel_rfl
      rw [← e]
      exact hmg0
    obtain ⟨fd, hb, hF⟩ := TK.K03.law_fn (P := (PySem.Challenge.rw_turnstack_k03_what_fits).prog) (w := w) KX Gn hmg c
    exact ⟨K, fd, TK.K03.spLaw K, KX, hb, fun H a ns hl _ hS => ⟨a, ns, rfl, hl, hS, fun _ => rfl⟩, fun base _ _ => hF base⟩
