import PyProof.Rows.All
import Wide.All
import OpenK.AllK
import Wide.FinOn
import HandS.ForMost
import HandS.EndTab
import PyProof.ReprRoads
import PyProof.ReprLen
import PyProof.ReprRoom
import HandS.TupMul
import HandS.Style
import HandS.Conv
import HandS.Rev
import HandS.Deep
import KE.SortData
import HandS.TupAny
import PyProof.StrOps
import HandS.Flow
import HandS.Star
import HandS.Walk
import HandS.Zip
import KE.DataMinMax
import HandS.RaiseMore
import HandS.SetFor
import HandS.ExcValue
import PyProof.Rows.SetFrom
import HandS.Dict
import KE.KExcSuper
import HandS.ExcInit
import HandS.ExcOwn
import HandS.IsInst
import HandS.ExcIs
import HandS.ExcField
import KE.KExcIs
import HandS.Iter
import KE.KRevSl
import KE.GoesEnum
import KE.GoesMore
import KE.GoesZip
import HandS.HeadWalk
import KE.KNestM
import HandS.Words
import PyProof.ExcBaseAll.ValueError
import HandS.List
import KE.KLam
import PySem.Challenge.RW_leastswaps_k03_whole_codes_and_numbers
set_option Elab.async false
set_option linter.all false
set_option maxRecDepth 100000
/-! VmA: data, a small machine code for the program's text, its meaning as functions. -/
namespace VM
open PySem

/-- data without addresses -/
inductive D where
  | non | bl (b : Bool) | int (i : Int) | str (x : Str)
  | tup (ds : List D) | lst (ds : List D)
  | fn (k : Nat) | cl (k : Nat)
  | err (k : Nat) (fs : List D)
  | dr
  | scr (ds : List D)
  | emp
deriving Inhabited

def D.isNon : D → Bool
  | .non => true
  | _ => false
/-- an exception: which class, its one field -/
structure Er where
  c : Nat
  fs : List D
/-- the state of the draws: large, rest, cells, turn -/
structure Dw where
  on : Bool
  large : List D
  rest : D
  cells : D
  turn : D
inductive Res (α : Type) where
  | ok (a : α) (w : Dw)
  | exc (e : Er) (w : Dw)
  | bad
def Res.bind {α β : Type} (r : Res α) (k : α → Dw → Res β) : Res β := match r with
  | .ok a w => k a w
  | .exc e w => .exc e w
  | .bad => .bad
@[simp] theorem Res.bind_ok {α β : Type} {a : α} {w : Dw} {k : α → Dw → Res β} : (Res.ok a w).bind k = k a w := rfl
@[simp] theorem Res.bind_exc {α β : Type} {e : Er} {w : Dw} {k : α → Dw → Res β} : (Res.exc e w : Res α).bind k = .exc e w := rfl
@[simp] theorem Res.bind_bad {α β : Type} {k : α → Dw → Res β} : (Res.bad : Res α).bind k = .bad := rfl
def Res.opt {α : Type} (o : Option α) (w : Dw) : Res α := match o with
  | some a => .ok a w
  | none => .bad
@[simp] theorem Res.opt_some {α : Type} {a : α} {w : Dw} : Res.opt (some a) w = .ok a w := rfl
@[simp] theorem Res.opt_none {α : Type} {w : Dw} : (Res.opt none w : Res α) = .bad := rfl

/-- a slot: nothing, data, a list of one's own -/
inductive Sl where
  | no | v (d : D) | own (ds : List D)
/-- what an expression gives: data; a new list; the own list of slot i -/
inductive RV where
  | v (d : D) | n (ds : List D) | m (i : Nat) (ds : List D)
abbrev En := List Sl
inductive Fl where
  | nx | bk | ct | rt (r : RV)

/-! ### the code -/
inductive BOp where
  | add | sub | mul | fdiv | mod | pow
deriving DecidableEq
inductive COp where
  | lt | le | gt | ge | eq | ne | is | isn | inn | nin
deriving DecidableEq
inductive Bi where
  | len | sum | all | any | sorted | min | max | abs | int | tuple | list | setl | repr | str
deriving DecidableEq
inductive DF where
  | large | rest | cells | turn
deriving DecidableEq

/-- the types that isinstance asks of -/
inductive Ty where
  | int | bool | str | tup | lst | cls (c : Nat)
deriving DecidableEq
inductive Pt where
  | nm (i : Nat) | tp (is : List Nat)

mutual
inductive E where
  | k (d : D)
  | emp
  | x (i : Nat)
  | bin (o : BOp) (a b : E)
  | neg (a : E)
  | not (a : E)
  | cmp (o : COp) (a b : E)
  | ch2 (o p : COp) (a b c : E)
  | boo (isAnd : Bool) (es : Es)
  | ife (c a b : E)
  | call (f : Nat) (as : Es)
  | callk (f : Nat) (as : Es) (ks : Es) (ord : List Nat)
  | callx (i : Nat) (as : Es)
  | bi (f : Bi) (as : Es)
  | tup (es : Es)
  | lst (es : Es)
  | lc (e : E) (p : Pt) (s : Src) (t : Eo) (own : List Nat)
  | ix (a i : E)
  | sl (a : E) (lo hi : Eo)
  | rv (a : E)
  | sq (isTup : Bool) (s : Src)
  | fld (a : E) (n : Str)
  | isi (a : E) (t : Ty)
  | caught (e : E)
  | dG (i : Nat) (f : DF)
  | dL (i : Nat)
  | dP (i : Nat)
inductive Es where
  | nil | cons (star : Bool) (e : E) (r : Es)
inductive Eo where
  | no | so (e : E)
inductive Src where
  | e (a : E)
  | rng (as : Es)
  | en (a : E) (s : Eo)
  | zp (a b : E)
  | zpr (a : E) (bs : Es)
  | rv (a : E)
end
mutual
inductive S where
  | set (p : Pt) (e : E)
  | seti (p : Pt) (c : E) (fa : List Nat) (a : E) (fb : List Nat) (b : E)
  | par (is : List Nat) (es : Es)
  | setx (i : Nat) (ix v : E)
  | augx (i : Nat) (ix : E) (o : BOp) (v : E)
  | aug (i : Nat) (o : BOp) (v : E)
  | app (i : Nat) (v : E)
  | appp (i j : Nat) (ix : E)
  | ext (i : Nat) (v : E)
  | clr (i : Nat)
  | dS (i : Nat) (f : DF) (v : E)
  | ite (c : E) (a b : Ss)
  | forr (p : Pt) (s : Src) (body : Ss)
  | whl (n : Nat) (c : E) (body : Ss)
  | ret (e : E)
  | retN | brk | cnt | pas
  | rai (c : Nat) (as : Es)
  | retD (es : Es) (fs : List DF)
  | exp (e : E)
  | frz (i : Nat)
inductive Ss where
  | nil | cons (s : S) (r : Ss)
end

/-! ### data as the library's data; equality -/
mutual
def D.py : D → Option PyData
  | .non => some .none
  | .bl b => some (.bool b)
  | .int i => some (.int i)
  | .str x => some (.str x)
  | .tup ds => (D.pys ds).map .tuple
  | .lst ds => (D.pys ds).map .list
  | .fn _ | .cl _ | .err _ _ | .dr | .scr _ | .emp => none
def D.pys : List D → Option (List PyData)
  | [] => some []
  | d :: r => match D.py d, D.pys r with
    | some p, some q => some (p :: q)
    | _, _ => none
end
def eqD (a b : D) : Option Bool := match a.py, b.py with
  | some p, some q => if SeqAt.shaped p && SeqAt.shaped q then some (PyData.eqv p q) else none
  | _, _ => none
def inD (a : D) (l : List D) : Option Bool := match a.py, D.pys l with
  | some p, some q => if SeqAt.shaped p && SeqAt.shaped (.list q) then some (q.any fun z => PyData.eqv z p) else none
  | _, _ => none

/-! ### what values give -/
def RV.toD : RV → Option D
  | .v d => some d
  | .n ds => some (.lst ds)
  | .m _ _ => none
/-- a sequence: whether a tuple, its items -/
def RV.seq : RV → Option (Bool × List D)
  | .v (.tup ds) => some (true, ds)
  | .v (.lst ds) => some (false, ds)
  | .n ds => some (false, ds)
  | .m _ ds => some (false, ds)
  | _ => none
/-- .. as data, whoever owns it -/
def RV.look : RV → D
  | .v d => d
  | .n ds => .lst ds
  | .m _ ds => .lst ds
def RV.int : RV → Option Int
  | .v (.int i) => some i
  | _ => none
def RV.truthy : RV → Option Bool
  | .v .non => some false
  | .v (.bl b) => some b
  | .v (.int i) => some (i != 0)
  | .v (.str x) => if x.length ≤ sizeLine then some ((x.length : Int) != 0) else none
  | r => match r.seq with
    | some (_, ds) => some (!ds.isEmpty)
    | none => none
def intsD : List D → Option (List Int)
  | [] => some []
  | .int i :: r => (intsD r).map (i :: ·)
  | _ => none
def boolsD : List D → Option (List Bool)
  | [] => some []
  | .bl i :: r => (boolsD r).map (i :: ·)
  | _ => none

def small64 (i : Int) : Bool := decide (-(2 ^ 64) < i) && decide (i < 2 ^ 64)
def opB (o : BOp) (a b : RV) : Option RV := match o with
  | .add => match a, b with
    | .v (.int i), .v (.int j) => some (.v (.int (i + j)))
    | .v (.str x), .v (.str y) => if x.length + y.length ≤ sizeLine then some (.v (.str (x ++ y))) else none
    | a, b => match a.seq, b.seq with
      | some (true, xs), some (true, ys) => if xs.length + ys.length ≤ sizeLine then some (.v (.tup (xs ++ ys))) else none
      | some (false, xs), some (false, ys) => if xs.length + ys.length ≤ sizeLine then some (.n (xs ++ ys)) else none
      | _, _ => none
  | .sub => match a, b with
    | .v (.int i), .v (.int j) => some (.v (.int (i - j)))
    | _, _ => none
  | .mul => match b with
    | .v (.int j) => match a with
      | .v (.int i) => if small64 i || small64 j then some (.v (.int (i * j))) else none
      | a => match a.seq with
        | some (true, xs) => if -(2 ^ 63) ≤ j && j ≤ 1000 && xs.length ≤ 1000 then some (.v (.tup (List.replicate j.toNat xs).flatten)) else none
        | some (false, xs) => if -(2 ^ 63) ≤ j && j < 2 ^ 63 && xs.length * j.toNat ≤ sizeLine then some (.n (List.replicate j.toNat xs).flatten) else none
        | none => none
    | _ => none
  | .fdiv => match a, b with
    | .v (.int i), .v (.int j) => if j ≠ 0 && j.natAbs < 1073741824 then some (.v (.int (i.fdiv j))) else none
    | _, _ => none
  | .mod => match a, b with
    | .v (.int i), .v (.int j) => if j ≠ 0 then some (.v (.int (i.fmod j))) else none
    | _, _ => none
  | .pow => match a, b with
    | .v (.int i), .v (.int j) => if 0 ≤ j && j ≤ 1000000 && i.natAbs < 2 ^ 64 then some (.v (.int (i ^ j.toNat))) else none
    | _, _ => none
def eqR (a b : RV) : Option Bool := match a, b with
  | .v (.str x), .v (.str y) => some (x.cps.toList == y.cps.toList)
  | a, b => eqD a.look b.look
def opC (o : COp) (a b : RV) : Option Bool := match o with
  | .lt => match a, b with
    | .v (.int i), .v (.int j) => some (decide (i < j))
    | .v (.tup xs), .v (.tup ys) => match intsD xs, intsD ys with
      | some ns, some ms => some (HT.lexLt ns ms)
      | _, _ => none
    | _, _ => none
  | .le => match a, b with
    | .v (.int i), .v (.int j) => some (decide (i ≤ j))
    | _, _ => none
  | .gt => match a, b with
    | .v (.int i), .v (.int j) => some (decide (j < i))
    | _, _ => none
  | .ge => match a, b with
    | .v (.int i), .v (.int j) => some (decide (j ≤ i))
    | _, _ => none
  | .eq => eqR a b
  | .ne => (eqR a b).map (!·)
  | .is => match b with
    | .v .non => match a with
      | .v d => some d.isNon
      | _ => none
    | .v (.bl y) => match a with
      | .v (.bl x) => some (decide (x = y))
      | _ => none
    | _ => none
  | .isn => match b with
    | .v .non => match a with
      | .v d => some (!d.isNon)
      | _ => none
    | .v (.bl y) => match a with
      | .v (.bl x) => some (!decide (x = y))
      | _ => none
    | _ => none
  | .inn => match b.seq with
    | some (_, ds) => inD a.look ds
    | none => none
  | .nin => match b.seq with
    | some (_, ds) => (inD a.look ds).map (!·)
    | none => none

def rngL (lo st : Int) (n : Nat) : List D := (List.range n).map fun i => .int (lo + (i : Nat) * st)
def big62 (i : Int) : Bool := decide (-(2 ^ 62) ≤ i) && decide (i < 2 ^ 62)
def rngI (as : List RV) : Option (List D) := match as with
  | [.v (.int b)] => if big62 b then some (rngL 0 1 b.toNat) else none
  | [.v (.int a), .v (.int b)] => if big62 a && big62 b then some (rngL a 1 (b - a).toNat) else none
  | [.v (.int a), .v (.int b), .v (.int c)] =>
    if c == -1 && big62 a && big62 b then some (rngL a (-1) (a - b).toNat) else none
  | _ => none
def zipD (xs ys : List D) : List D := List.zipWith (fun a b => .tup [a, b]) xs ys
def enumD (s : Int) (xs : List D) : List D := xs.zipIdx.map fun p => .tup [.int (s + (p.2 : Nat)), p.1]

def dedup (ns : List Int) : List Int := ns.foldl (fun acc k => if acc.any (· == k) then acc else acc ++ [k]) []

mutual
def smallR : PyData → Bool
  | .none | .bool _ => true
  | .int i => decide (i.natAbs < 1000000000000)
  | .str x => x.cps.toList.all fun c => decide (c < 4294967296)
  | .list xs | .tuple xs => smallRs xs
  | .dict _ => false
def smallRs : List PyData → Bool
  | [] => true
  | x :: xs => smallR x && smallRs xs
end
def okR (p : PyData) : Bool := smallR p && decide (p.depth < 60) && decide (p.weight ≤ 1048576)
def bi (f : Bi) (as : List RV) : Option RV := match f, as with
  | .len, [.v (.str x)] => if x.length ≤ sizeLine then some (.v (.int x.length)) else none
  | .len, [.v (.scr ds)] => some (.v (.int ds.length))
  | .len, [a] => a.seq.map fun p => .v (.int p.2.length)
  | .sum, [a] => match a.seq with
    | some (_, ds) => (intsD ds).map fun ns => .v (.int ns.sum)
    | none => none
  | .all, [a] => match a.seq with
    | some (false, ds) => (boolsD ds).map fun bs => .v (.bl (bs.all id))
    | _ => none
  | .any, [a] => match a.seq with
    | some (false, ds) => (boolsD ds).map fun bs => .v (.bl (bs.any id))
    | _ => none
  | .abs, [.v (.int i)] => some (.v (.int (if i < 0 then -i else i)))
  | .int, [.v (.int i)] => some (.v (.int i))
  | .min, [.v (.int i), .v (.int j)] => some (.v (.int (if j < i then j else i)))
  | .max, [.v (.int i), .v (.int j)] => some (.v (.int (if j > i then j else i)))
  | .tuple, [a] => a.seq.map fun p => .v (.tup p.2)
  | .list, [a] => a.seq.map fun p => .n p.2
  | .sorted, [a] => match a.seq with
    | some (_, ds) => (intsD ds).map fun ns => .n ((ns.mergeSort fun x y => decide (x ≤ y)).map .int)
    | none => none
  | .setl, [a] => match a.seq with
    | some (_, ds) => (intsD ds).bind fun ns => if ns.length ≤ 1000 then some (.v (.int (dedup ns).length)) else none
    | none => none
  | .repr, [a] => match a.look.py with
    | some p => if okR p then some (.v (.str p.shown)) else none
    | none => none
  | .str, [.v (.int i)] => if i.natAbs.log2 < 1920 then some (.v (.str (toString i))) else none
  | _, _ => none
def atD (ds : List D) (i : Int) : Option D := L2.atI ds i
def cutD (ds : List D) (lo hi : Option Int) : List D := (ds.drop (HT.sIx ds.length 0 lo)).take (HT.sIx ds.length ds.length hi - HT.sIx ds.length 0 lo)

def Sl.rv (i : Nat) : Option Sl → Option RV
  | some (.v d) => some (.v d)
  | some (.own ds) => some (.m i ds)
  | _ => none
/-- what a lambda may see of a slot -/
def Sl.sh : Sl → Sl
  | .own _ => .no
  | s => s
def wipeE (ρ : En) : List Nat → En
  | [] => ρ
  | v :: vs => (wipeE ρ vs).set v .no
def putAll : List Nat → List D → En → Option En
  | [], [], ρ => some ρ
  | i :: is, d :: ds, ρ => putAll is ds (ρ.set i (.v d))
  | _, _, _ => none
def bindP (p : Pt) (d : D) (ρ : En) : Option En := match p with
  | .nm i => some (ρ.set i (.v d))
  | .tp is => match d with
    | .tup ds => putAll is ds ρ
    | .lst ds => putAll is ds ρ
    | _ => none
/-- the elements of a comprehension -/
def compL (turn : D → Dw → Res (Option D)) : List D → Dw → Res (List D)
  | [], w => .ok [] w
  | d :: r, w => match turn d w with
    | .ok o w1 => (compL turn r w1).bind fun l w2 => .ok (match o with | some x => x :: l | none => l) w2
    | _ => .bad
/-- one turn of a comprehension -/
def lcTurn (p : Pt) (ρ : En) (fT : En → Dw → Res Bool) (f : En → Dw → Res RV) (d : D) (w : Dw) : Res (Option D) := match bindP p d ρ with
  | none => .bad
  | some ρ1 => (fT ρ1 w).bind fun b w => if b then (f ρ1 w).bind fun r w => (match r.toD with | none => .bad | some x => .ok (some x) w) else .ok none w
/-- x op= y of ints -/
def augI (o : BOp) (x : Int) (r : RV) : Option D := match o, r with
  | .add, .v (.int y) => some (.int (x + y))
  | .sub, .v (.int y) => some (.int (x - y))
  | .mul, .v (.int y) => if small64 x || small64 y then some (.int (x * y)) else none
  | .fdiv, .v (.int y) => if 0 < y && y < 1073741824 then some (.int (x / y)) else none
  | _, _ => none
def reord (ord : List Nat) (ds : List D) : Option (List D) := ord.mapM fun i => ds[i]?
def dwGet (f : DF) (w : Dw) : Option D := if w.on then (match f with | .rest => some w.rest | .cells => some w.cells | .turn => some w.turn | .large => none) else none
def dwSet (f : DF) (d : D) (w : Dw) : Option Dw := if w.on then (match f with | .rest => some { w with rest := d } | .turn => some { w with turn := d } | _ => none) else none
def isDr : Option Sl → Bool
  | some (.v .dr) => true
  | _ => false
def dwMk (a b c d : RV) : Option Dw := match a, b, c, d with
  | .m _ ds, .v (.int i), .n es, .v (.int j) => some ⟨true, ds, .int i, .lst es, .int j⟩
  | _, _, _, _ => none
def dwMake : List DF → List RV → Dw → Option Dw
  | [.large, .rest, .cells, .turn], [a, b, c, d], _ => dwMk a b c d
  | _, _, _ => none

/-- isinstance -/
def isaT (sub : Nat → Nat → Option Bool) (t : Ty) (r : RV) : Option Bool := match r with
  | .v .non => some false
  | .v (.bl _) => some (t = .bool || t = .int)
  | .v (.int _) => some (t = .int)
  | .v (.str _) => some (t = .str)
  | .v .emp => some false
  | .v (.err c _) => match t with
    | .cls c' => sub c c'
    | _ => none
  | r => match r.seq with
    | some (true, _) => some (t = .tup)
    | some (false, _) => some (t = .lst)
    | none => none
abbrev Phi := Nat → List D → Dw → Res RV
/-- whether an error is of a class: by the classes' table -/
structure Cfg where
  /-- which class is one of which -/
  sub : Nat → Nat → Option Bool
  /-- the fields' names of a class -/
  fldN : Nat → List Str
  /-- the defs that are called through slots -/
  cx : Nat → Bool
  /-- the classes that the catcher takes -/
  takes : Nat → Bool

mutual
def ev (C : Cfg) (Φ : Phi) : E → En → Dw → Res RV
  | .k d, _, w => .ok (.v d) w
  | .emp, _, w => .ok (.v .emp) w
  | .x i, ρ, w => .opt (Sl.rv i ρ[i]?) w
  | .bin o a b, ρ, w => (ev C Φ a ρ w).bind fun u w => (ev C Φ b ρ w).bind fun v w => .opt (opB o u v) w
  | .neg a, ρ, w => (ev C Φ a ρ w).bind fun u w => .opt (u.int.map fun i => .v (.int (-i))) w
  | .not a, ρ, w => (ev C Φ a ρ w).bind fun u w => .opt (u.truthy.map fun b => .v (.bl (!b))) w
  | .cmp o a b, ρ, w => (ev C Φ a ρ w).bind fun u w => (ev C Φ b ρ w).bind fun v w => .opt ((opC o u v).map fun b => .v (.bl b)) w
  | .ch2 o p a b c, ρ, w => (ev C Φ a ρ w).bind fun u w => (ev C Φ b ρ w).bind fun v w => match opC o u v with
    | none => .bad
    | some false => .ok (.v (.bl false)) w
    | some true => (ev C Φ c ρ w).bind fun z w => .opt ((opC p v z).map fun b => .v (.bl b)) w
  | .boo k es, ρ, w => evB C Φ k es ρ w
  | .ife c a b, ρ, w => (ev C Φ c ρ w).bind fun u w => match u.truthy with
    | none => .bad
    | some true => ev C Φ a ρ w
    | some false => ev C Φ b ρ w
  | .call f as, ρ, w => (evs C Φ as ρ w).bind fun rs w => match rs.mapM RV.toD with
    | none => .bad
    | some ds => Φ f ds w
  | .callk f as ks ord, ρ, w => (evs C Φ as ρ w).bind fun rs w => match rs.mapM RV.toD with
    | none => .bad
    | some ds => (evs C Φ ks ρ w).bind fun rs2 w => match rs2.mapM RV.toD with
      | none => .bad
      | some es => match reord ord (ds ++ es) with
        | none => .bad
        | some ds => Φ f ds w
  | .callx i as, ρ, w => match ρ[i]? with
    | some (.v (.fn f)) => if C.cx f then (evs C Φ as ρ w).bind fun rs w => match rs.mapM RV.toD with
      | none => .bad
      | some ds => Φ f ds w
      else .bad
    | _ => .bad
  | .bi f as, ρ, w => (evs C Φ as ρ w).bind fun rs w => .opt (bi f rs) w
  | .tup es, ρ, w => (evs C Φ es ρ w).bind fun rs w => match rs.mapM RV.toD with
    | none => .bad
    | some ds => if ds.length ≤ sizeLine then .ok (.v (.tup ds)) w else .bad
  | .lst es, ρ, w => (evs C Φ es ρ w).bind fun rs w => match rs.mapM RV.toD with
    | none => .bad
    | some ds => if ds.length ≤ sizeLine then .ok (.n ds) w else .bad
  | .lc e p s t own, ρ, w => (evS C Φ s ρ w).bind fun items w =>
      (compL (lcTurn p (wipeE ρ own) (evT C Φ t) (ev C Φ e)) items w).bind fun l w => if items.length ≤ sizeLine then .ok (.n l) w else .bad
  | .ix a i, ρ, w => (ev C Φ a ρ w).bind fun u w => (ev C Φ i ρ w).bind fun v w => match u.seq, v with
    | some (_, ds), .v (.int j) => .opt ((atD ds j).map .v) w
    | _, _ => .bad
  | .sl a lo hi, ρ, w => (ev C Φ a ρ w).bind fun u w => (evO C Φ lo ρ w).bind fun l w => (evO C Φ hi ρ w).bind fun h w => match u.seq with
    | some (true, ds) => .ok (.v (.tup (cutD ds l h))) w
    | some (false, ds) => .ok (.n (cutD ds l h)) w
    | none => .bad
  | .rv a, ρ, w => (ev C Φ a ρ w).bind fun u w => match u.seq with
    | some (true, ds) => .ok (.v (.tup ds.reverse)) w
    | some (false, ds) => .ok (.n ds.reverse) w
    | none => .bad
  | .sq k s, ρ, w => (evS C Φ s ρ w).bind fun ds w => if ds.length ≤ sizeLine then .ok (if k then .v (.tup ds) else .n ds) w else .bad
  | .fld a n, ρ, w => (ev C Φ a ρ w).bind fun u w => match u with
    | .v (.err c fs) => .opt (((C.fldN c).zip fs).lookup n |>.map .v) w
    | _ => .bad
  | .isi a t, ρ, w => (ev C Φ a ρ w).bind fun u w => .opt ((isaT C.sub t u).map fun b => .v (.bl b)) w
  | .caught e, ρ, w => match ev C Φ e (ρ.map Sl.sh) w with
    | .ok _ w => .ok (.v .non) w
    | .exc er w => if C.takes er.c then .ok (.v (.err er.c er.fs)) w else .bad
    | .bad => .bad
  | .dG i f, ρ, w => if isDr ρ[i]? then .opt ((dwGet f w).map .v) w else .bad
  | .dL i, ρ, w => if isDr ρ[i]? && w.on then .opt ((eqD (.lst w.large) (.lst [])).map fun b => .v (.bl (!b))) w else .bad
  | .dP i, ρ, w => if isDr ρ[i]? && w.on then (match w.large with
      | d :: r => .ok (.v d) { w with large := r }
      | [] => .bad) else .bad
def evs (C : Cfg) (Φ : Phi) : Es → En → Dw → Res (List RV)
  | .nil, _, w => .ok [] w
  | .cons false e r, ρ, w => (ev C Φ e ρ w).bind fun u w => (evs C Φ r ρ w).bind fun us w => .ok (u :: us) w
  | .cons true e r, ρ, w => (ev C Φ e ρ w).bind fun u w => match u.seq with
    | none => .bad
    | some (_, ds) => (evs C Φ r ρ w).bind fun us w => .ok (ds.map .v ++ us) w
def evB (C : Cfg) (Φ : Phi) (k : Bool) : Es → En → Dw → Res RV
  | .nil, _, _ => .bad
  | .cons _ e .nil, ρ, w => ev C Φ e ρ w
  | .cons _ e r, ρ, w => (ev C Φ e ρ w).bind fun u w => match u.truthy with
    | none => .bad
    | some b => if b == k then evB C Φ k r ρ w else .ok u w
def evO (C : Cfg) (Φ : Phi) : Eo → En → Dw → Res (Option Int)
  | .no, _, w => .ok none w
  | .so e, ρ, w => (ev C Φ e ρ w).bind fun u w => .opt (u.int.map some) w
def evT (C : Cfg) (Φ : Phi) : Eo → En → Dw → Res Bool
  | .no, _, w => .ok true w
  | .so e, ρ, w => (ev C Φ e ρ w).bind fun u w => .opt u.truthy w
def evS (C : Cfg) (Φ : Phi) : Src → En → Dw → Res (List D)
  | .e a, ρ, w => (ev C Φ a ρ w).bind fun u w => match u.toD with
    | some (.tup ds) => .ok ds w
    | some (.lst ds) => .ok ds w
    | some (.scr ds) => .ok ds w
    | _ => .bad
  | .rng as, ρ, w => (evs C Φ as ρ w).bind fun rs w => .opt (rngI rs) w
  | .en a .no, ρ, w => (ev C Φ a ρ w).bind fun u w => match u.toD.bind (fun d => (RV.v d).seq) with
    | some (_, ds) => .ok (enumD 0 ds) w
    | none => .bad
  | .en _ (.so _), _, _ => .bad
  | .zp a b, ρ, w => (ev C Φ a ρ w).bind fun u w => (ev C Φ b ρ w).bind fun v w => match u.toD.bind (fun d => (RV.v d).seq), v.toD.bind (fun d => (RV.v d).seq) with
    | some (_, xs), some (_, ys) => .ok (zipD xs ys) w
    | _, _ => .bad
  | .zpr a bs, ρ, w => (ev C Φ a ρ w).bind fun u w => match u.toD.bind (fun d => (RV.v d).seq) with
    | none => .bad
    | some (_, xs) => (evs C Φ bs ρ w).bind fun rs w => match rngI rs with
      | none => .bad
      | some l => .ok (zipD xs l) w
  | .rv a, ρ, w => (ev C Φ a ρ w).bind fun u w => match u.toD with
    | some (.tup ds) => .ok ds.reverse w
    | some (.lst ds) => .ok ds.reverse w
    | _ => .bad
end

def forL (body : En → Dw → Res (En × Fl)) (p : Pt) : List D → En → Dw → Res (En × Fl)
  | [], ρ, w => .ok (ρ, .nx) w
  | d :: r, ρ, w => match bindP p d ρ with
    | none => .bad
    | some ρ1 => (body ρ1 w).bind fun q w => match q.2 with
      | .nx | .ct => forL body p r q.1 w
      | .bk => .ok (q.1, .nx) w
      | .rt v => .ok (q.1, .rt v) w
def whlL (test : En → Dw → Res RV) (body : En → Dw → Res (En × Fl)) : Nat → En → Dw → Res (En × Fl)
  | 0, _, _ => .bad
  | n + 1, ρ, w => (test ρ w).bind fun u w => match u.truthy with
    | none => .bad
    | some false => .ok (ρ, .nx) w
    | some true => (body ρ w).bind fun q w => match q.2 with
      | .nx | .ct => whlL test body n q.1 w
      | .bk => .ok (q.1, .nx) w
      | .rt v => .ok (q.1, .rt v) w
def setE (p : Pt) (r : RV) (ρ : En) : Option En := match p with
  | .nm i => match r with
    | .v d => some (ρ.set i (.v d))
    | .n ds => some (ρ.set i (.own ds))
    | .m j ds => some ((ρ.set j .no).set i (.own ds))
  | .tp is => match r with
    | .v d => bindP (.tp is) d ρ
    | .n ds => putAll is ds ρ
    | .m _ ds => putAll is ds ρ
/-- some own lists are data from here on -/
def frzs : List Nat → En → En
  | [], ρ => ρ
  | i :: is, ρ => frzs is (match ρ[i]? with
    | some (.own ds) => ρ.set i (.v (.lst ds))
    | _ => ρ)
def parE : List Nat → List RV → En → Option En
  | [], [], ρ => some ρ
  | i :: is, .v d :: rs, ρ => parE is rs (ρ.set i (.v d))
  | i :: is, .n ds :: rs, ρ => parE is rs (ρ.set i (.own ds))
  | _, _, _ => none
mutual
def exS (C : Cfg) (Φ : Phi) : S → En → Dw → Res (En × Fl)
  | .set p e, ρ, w => (ev C Φ e ρ w).bind fun r w => match setE p r ρ with
    | none => .bad
    | some ρ1 => .ok (ρ1, .nx) w
  | .seti p c fa a fb b, ρ, w => (ev C Φ c ρ w).bind fun u w => match u.truthy with
    | none => .bad
    | some true => (ev C Φ a (frzs fa ρ) w).bind fun r w => (match setE p r (frzs fa ρ) with
      | none => .bad
      | some ρ1 => .ok (ρ1, .nx) w)
    | some false => (ev C Φ b (frzs fb ρ) w).bind fun r w => (match setE p r (frzs fb ρ) with
      | none => .bad
      | some ρ1 => .ok (ρ1, .nx) w)
  | .par is es, ρ, w => (evs C Φ es ρ w).bind fun rs w => match parE is rs ρ with
    | none => .bad
    | some ρ1 => .ok (ρ1, .nx) w
  | .setx i ix v, ρ, w => (ev C Φ v ρ w).bind fun r w => match ρ[i]? with
    | some (.own ds) => (ev C Φ ix ρ w).bind fun j w => (match r.toD, j with
      | some d, .v (.int k) => (match L2.ixN ds.length k with
        | some n => .ok (ρ.set i (.own (ds.set n d)), .nx) w
        | none => .bad)
      | _, _ => .bad)
    | _ => .bad
  | .augx i ix o v, ρ, w => match ρ[i]? with
    | some (.own ds) => (ev C Φ ix ρ w).bind fun j w => (match j with
      | .v (.int k) => (match L2.ixN ds.length k with
        | some n => (match ds[n]? with
          | some (.int x) => (ev C Φ v ρ w).bind fun r w => .opt ((augI o x r).map fun d => (ρ.set i (.own (ds.set n d)), .nx)) w
          | _ => .bad)
        | none => .bad)
      | _ => .bad)
    | _ => .bad
  | .aug i o v, ρ, w => match ρ[i]? with
    | some (.v (.int x)) => (ev C Φ v ρ w).bind fun r w => .opt ((augI o x r).map fun d => (ρ.set i (.v d), .nx)) w
    | _ => .bad
  | .app i v, ρ, w => match ρ[i]? with
    | some (.own ds) => (ev C Φ v ρ w).bind fun r w => (match r.toD with
      | some d => if ds.length < sizeLine then .ok (ρ.set i (.own (ds ++ [d])), .nx) w else .bad
      | none => .bad)
    | _ => .bad
  | .appp i j ix, ρ, w => match ρ[i]?, ρ[j]? with
    | some (.own ds), some (.own es) => (ev C Φ ix ρ w).bind fun r w => (match r with
      | .v (.int k) => if i = j ∨ sizeLine < es.length then .bad else (match L2.ixN es.length k with
        | some n => (match es[n]? with
          | some d => if ds.length < sizeLine then .ok ((ρ.set j (.own (es.eraseIdx n))).set i (.own (ds ++ [d])), .nx) w else .bad
          | none => .bad)
        | none => .bad)
      | _ => .bad)
    | _, _ => .bad
  | .ext i v, ρ, w => match ρ[i]? with
    | some (.own ds) => (ev C Φ v ρ w).bind fun r w => (match r.seq with
      | some (false, es) => if ds.length + es.length ≤ sizeLine then .ok (ρ.set i (.own (ds ++ es)), .nx) w else .bad
      | _ => .bad)
    | _ => .bad
  | .clr i, ρ, w => match ρ[i]? with
    | some (.own _) => .ok (ρ.set i (.own []), .nx) w
    | _ => .bad
  | .dS i f v, ρ, w => (ev C Φ v ρ w).bind fun r w => match isDr ρ[i]?, r with
    | true, .v (.int k) => (match dwSet f (.int k) w with
      | some w1 => .ok (ρ, .nx) w1
      | none => .bad)
    | _, _ => .bad
  | .ite c a b, ρ, w => (ev C Φ c ρ w).bind fun u w => match u.truthy with
    | none => .bad
    | some true => exSs C Φ a ρ w
    | some false => exSs C Φ b ρ w
  | .forr p s body, ρ, w => (evS C Φ s ρ w).bind fun items w => forL (exSs C Φ body) p items ρ w
  | .whl n c body, ρ, w => whlL (ev C Φ c) (exSs C Φ body) n ρ w
  | .ret e, ρ, w => (ev C Φ e ρ w).bind fun r w => .ok (ρ, .rt r) w
  | .retN, ρ, w => .ok (ρ, .rt (.v .non)) w
  | .brk, ρ, w => .ok (ρ, .bk) w
  | .cnt, ρ, w => .ok (ρ, .ct) w
  | .pas, ρ, w => .ok (ρ, .nx) w
  | .rai c as, ρ, w => (evs C Φ as ρ w).bind fun rs w => match rs.mapM RV.toD with
    | none => .bad
    | some ds => .exc ⟨c, if (C.fldN c).isEmpty then [] else ds⟩ w
  | .retD es fs, ρ, w => (evs C Φ es ρ w).bind fun rs w => if w.on then .bad else (match dwMake fs rs w with
      | some w => .ok (ρ.map Sl.sh, .rt (.v .dr)) w
      | none => .bad)
  | .exp e, ρ, w => (ev C Φ e ρ w).bind fun _ w => .ok (ρ, .nx) w
  | .frz i, ρ, w => match ρ[i]? with
    | some (.own ds) => .ok (ρ.set i (.v (.lst ds)), .nx) w
    | _ => .ok (ρ, .nx) w
def exSs (C : Cfg) (Φ : Phi) : Ss → En → Dw → Res (En × Fl)
  | .nil, ρ, w => .ok (ρ, .nx) w
  | .cons s r, ρ, w => (exS C Φ s ρ w).bind fun q w => match q.2 with
    | .nx => exSs C Φ r q.1 w
    | f => .ok (q.1, f) w
end

/-- a def: how many parameters, how many names, its body -/
structure Fd where
  np : Nat
  nn : Nat
  body : Ss
def outR (q : En × Fl) (w : Dw) : Res RV := match q.2 with
  | .nx => .ok (.v .non) w
  | .rt (.v d) => .ok (.v d) w
  | .rt (.n ds) => .ok (.n ds) w
  | .rt (.m _ ds) => .ok (.n ds) w
  | _ => .bad
def runF (C : Cfg) (Φ : Phi) (fd : Fd) (ds : List D) (w : Dw) : Res RV :=
  if ds.length = fd.np ∧ fd.np ≤ fd.nn then (exSs C Φ fd.body (ds.map .v ++ List.replicate (fd.nn - fd.np) .no) w).bind outR else .bad
/-- the program's defs, calls n deep -/
def den (C : Cfg) (pr : List Fd) : Nat → Phi
  | 0 => fun _ _ _ => .bad
  | n + 1 => fun f ds w => match pr[f]? with
    | some fd => runF C (den C pr n) fd ds w
    | none => .bad
end VM
set_option Elab.async false
set_option linter.all false
set_option maxRecDepth 100000
/-! VmB: how data lies in the abstract heap; states; what an expression's reading says. -/
namespace VM
open PySem PySem.Spec L2

/-- what is fixed through a law -/
structure Zed where
  P : Program
  w : World
  K : PySem.W.Frag
  mg : Str → Option Value
  base : Heap
  fa : Nat → Addr
  ca : Nat → Addr
  fldN : Nat → List Str
  T : List (Addr × Str)

/-- the marks of the draws' dict and its list -/
def mkD : HO := .met 0 0
def mkL : HO := .met 0 1
def isMk : HO → Bool
  | .met _ _ => true
  | _ => false
/-- a caught exception's object -/
def ExV (cls : Value) (d : Option Addr) (a : Addr) : HO := .ext fun h => ∃ (oe : Obj) (vs : Array Value), h.get? a = some oe ∧ oe.cls = cls ∧ oe.dict = d ∧ oe.data = .fields vs
variable (Z : Zed)
/-- a class's instance with its dict d holds the fields vs -/
def FldAt (G : Hp) (c : Nat) (d : Option Addr) (vs : List V) : Prop :=
  (Z.fldN c = [] ∧ vs = [] ∧ d = none) ∨ ∃ dd nm v, Z.fldN c = [nm] ∧ d = some dd ∧ vs = [v] ∧ G dd = some (.xd [(nm, v)])
mutual
inductive Rp (G : Hp) : V → D → Prop
  | non : Rp G .non .non
  | bl (b : Bool) : Rp G (.bl b) (.bl b)
  | int (i : Int) : Rp G (.int i) (.int i)
  | str (x : Str) : Rp G (.str x) (.str x)
  | tup {a : Addr} {xs : List V} {ds : List D} : SqT Z.K G a xs → RpL G xs ds → Rp G (.ref a) (.tup ds)
  | lst {a : Addr} {xs : List V} {ds : List D} : G a = some (.lst xs) → RpL G xs ds → Rp G (.ref a) (.lst ds)
  | scr {a : Addr} {xs : List V} {ds : List D} : SqL Z.K G a xs → RpL G xs ds → Rp G (.ref a) (.scr ds)
  | fn (k : Nat) : Rp G (.ref (Z.fa k)) (.fn k)
  | cl (k : Nat) : Rp G (.ref (Z.ca k)) (.cl k)
  | err {a : Addr} {c : Nat} {d : Option Addr} {vs : List V} {fs : List D} : G a = some (ExV (.ref (Z.ca c)) d a) → FldAt Z G c d vs → RpL G vs fs → Rp G (.ref a) (.err c fs)
  | dr {a : Addr} : G a = some mkD → Rp G (.ref a) .dr
  | emp {a : Addr} : G a = some (.dK []) → Rp G (.ref a) .emp
inductive RpL (G : Hp) : List V → List D → Prop
  | nil : RpL G [] []
  | cons {v : V} {vs : List V} {d : D} {ds : List D} : Rp G v d → RpL G vs ds → RpL G (v :: vs) (d :: ds)
end
variable {Z}
abbrev Sub (G G' : Hp) : Prop := ∀ b o, G b = some o → G' b = some o
theorem SqL.sub {K : PySem.W.Frag} {G G' : Hp} (s : Sub G G') {a : Addr} {xs : List V} (h : SqL K G a xs) : SqL K G' a xs := by
  rcases h with (h | ⟨o, h⟩) | h
  · exact .inl (.inl (s _ _ h))
  · exact .inl (.inr ⟨o, s _ _ h⟩)
  · exact .inr h
theorem SqT.sub {K : PySem.W.Frag} {G G' : Hp} (s : Sub G G') {a : Addr} {xs : List V} (h : SqT K G a xs) : SqT K G' a xs := by
  rcases h with (h | ⟨o, h⟩) | h
  · exact .inl (.inl (s _ _ h))
  · exact .inl (.inr ⟨o, s _ _ h⟩)
  · exact .inr h
theorem FldAt.sub {G G' : Hp} (s : Sub G G') {c : Nat} {d : Option Addr} {vs : List V} (h : FldAt Z G c d vs) : FldAt Z G' c d vs := by
  rcases h with h | ⟨dd, nm, v, h1, h2, h3, h4⟩
  · exact .inl h
  · exact .inr ⟨dd, nm, v, h1, h2, h3, s _ _ h4⟩
mutual
theorem Rp.sub {G G' : Hp} (s : Sub G G') : ∀ {v : V} {d : D}, Rp Z G v d → Rp Z G' v d
  | _, _, .non => .non
  | _, _, .bl b => .bl b
  | _, _, .int i => .int i
  | _, _, .str x => .str x
  | _, _, .tup h r => .tup (SqT.sub s h) (RpL.sub s r)
  | _, _, .lst h r => .lst (s _ _ h) (RpL.sub s r)
  | _, _, .scr h r => .scr (SqL.sub s h) (RpL.sub s r)
  | _, _, .fn k => .fn k
  | _, _, .cl k => .cl k
  | _, _, .err h f r => .err (s _ _ h) (FldAt.sub s f) (RpL.sub s r)
  | _, _, .dr h => .dr (s _ _ h)
  | _, _, .emp h => .emp (s _ _ h)
theorem RpL.sub {G G' : Hp} (s : Sub G G') : ∀ {v : List V} {d : List D}, RpL Z G v d → RpL Z G' v d
  | _, _, .nil => .nil
  | _, _, .cons h r => .cons (Rp.sub s h) (RpL.sub s r)
end
theorem RpL.length {G : Hp} : ∀ {xs : List V} {ds : List D}, RpL Z G xs ds → xs.length = ds.length
  | _, _, .nil => rfl
  | _, _, .cons _ r => by rw [List.length_cons, List.length_cons, RpL.length r]
theorem RpL.get {G : Hp} : ∀ {xs : List V} {ds : List D} {i : Nat} {d : D}, RpL Z G xs ds → ds[i]? = some d → ∃ x, xs[i]? = some x ∧ Rp Z G x d
  | _, _, _, _, .nil, e => by simp at e
  | _, _, 0, _, .cons r _, e => by simp at e; subst e; exact ⟨_, rfl, r⟩
  | _, _, i + 1, d, .cons _ t, e => by
    obtain ⟨u, h1, h2⟩ := RpL.get (i := i) (d := d) t (by simpa using e)
    exact ⟨u, by simpa using h1, h2⟩
theorem RpL.getV {G : Hp} : ∀ {xs : List V} {ds : List D} {i : Nat} {x : V}, RpL Z G xs ds → xs[i]? = some x → ∃ d, ds[i]? = some d ∧ Rp Z G x d
  | _, _, _, _, .nil, e => by simp at e
  | _, _, 0, _, .cons r _, e => by simp at e; subst e; exact ⟨_, rfl, r⟩
  | _, _, i + 1, d, .cons _ t, e => by
    obtain ⟨u, h1, h2⟩ := RpL.getV (i := i) (x := d) t (by simpa using e)
    exact ⟨u, by simpa using h1, h2⟩
theorem RpL.append {G : Hp} : ∀ {xs ys : List V} {ds es : List D}, RpL Z G xs ds → RpL Z G ys es → RpL Z G (xs ++ ys) (ds ++ es)
  | _, _, _, _, .nil, s => s
  | _, _, _, _, .cons r t, s => .cons r (RpL.append t s)
theorem RpL.set {G : Hp} {x : V} {d : D} (r : Rp Z G x d) : ∀ {xs : List V} {ds : List D} (i : Nat), RpL Z G xs ds → RpL Z G (xs.set i x) (ds.set i d)
  | _, _, _, .nil => .nil
  | _, _, 0, .cons _ t => .cons r t
  | _, _, i + 1, .cons q t => .cons q (RpL.set r i t)
theorem RpL.erase {G : Hp} : ∀ {xs : List V} {ds : List D} (i : Nat), RpL Z G xs ds → RpL Z G (xs.eraseIdx i) (ds.eraseIdx i)
  | _, _, _, .nil => .nil
  | _, _, 0, .cons _ t => t
  | _, _, i + 1, .cons q t => .cons q (RpL.erase i t)
theorem RpL.take {G : Hp} : ∀ {xs : List V} {ds : List D} (n : Nat), RpL Z G xs ds → RpL Z G (xs.take n) (ds.take n)
  | _, _, 0, _ => .nil
  | _, _, _ + 1, .nil => .nil
  | _, _, n + 1, .cons r t => .cons r (RpL.take n t)
theorem RpL.drop {G : Hp} : ∀ {xs : List V} {ds : List D} (n : Nat), RpL Z G xs ds → RpL Z G (xs.drop n) (ds.drop n)
  | _, _, 0, r => r
  | _, _, _ + 1, .nil => .nil
  | _, _, n + 1, .cons _ t => RpL.drop n t
theorem RpL.reverse {G : Hp} : ∀ {xs : List V} {ds : List D}, RpL Z G xs ds → RpL Z G xs.reverse ds.reverse
  | _, _, .nil => .nil
  | _, _, .cons r t => by rw [List.reverse_cons, List.reverse_cons]; exact (RpL.reverse t).append (.cons r .nil)
theorem RpL.rep {G : Hp} {xs : List V} {ds : List D} (r : RpL Z G xs ds) : ∀ n : Nat, RpL Z G (List.replicate n xs).flatten (List.replicate n ds).flatten
  | 0 => .nil
  | n + 1 => by
    rw [List.replicate_succ, List.replicate_succ, List.flatten_cons, List.flatten_cons]
    exact r.append (RpL.rep r n)
theorem RpL.ints {G : Hp} : ∀ ns : List Int, RpL Z G (ns.map V.int) (ns.map D.int)
  | [] => .nil
  | n :: ns => .cons (.int n) (RpL.ints ns)
/-- ints are ints -/
theorem RpL.ofInts {G : Hp} : ∀ {xs : List V} {ds : List D} {ns : List Int}, RpL Z G xs ds → intsD ds = some ns → xs = ns.map V.int ∧ ds = ns.map D.int
  | _, _, ns, .nil, e => by
    have e' : ns = [] := (Option.some.inj e).symm
    subst e'
    exact ⟨rfl, rfl⟩
  | _, _, ns, .cons (d := d) (ds := ds) r t, e => by
    cases d with
    | int i =>
      have e' : (intsD ds).map (i :: ·) = some ns := e
      cases q : intsD ds with
      | none => rw [q] at e'; cases e'
      | some ms =>
        rw [q] at e'
        have e2 : i :: ms = ns := Option.some.inj e'
        obtain ⟨h1, h2⟩ := RpL.ofInts t q
        cases r
        rw [← e2, h1, h2]
        exact ⟨rfl, rfl⟩
    | _ => cases e
theorem RpL.ofBools {G : Hp} : ∀ {xs : List V} {ds : List D} {ns : List Bool}, RpL Z G xs ds → boolsD ds = some ns → xs = ns.map V.bl
  | _, _, ns, .nil, e => by
    have e' : ns = [] := (Option.some.inj e).symm
    subst e'
    rfl
  | _, _, ns, .cons (d := d) (ds := ds) r t, e => by
    cases d with
    | bl i =>
      have e' : (boolsD ds).map (i :: ·) = some ns := e
      cases q : boolsD ds with
      | none => rw [q] at e'; cases e'
      | some ms =>
        rw [q] at e'
        have e2 : i :: ms = ns := Option.some.inj e'
        have h1 := RpL.ofBools t q
        cases r
        rw [← e2, h1]
        rfl
    | _ => cases e
mutual
theorem Rp.dp {G : Hp} : ∀ {v : V} {d : D} {p : PyData}, Rp Z G v d → d.py = some p → Dp Z.K G v p
  | _, _, p, .non, e => by simp only [D.py, Option.some.injEq] at e; subst e; exact .non
  | _, _, p, .bl b, e => by simp only [D.py, Option.some.injEq] at e; subst e; exact .bl b
  | _, _, p, .int b, e => by simp only [D.py, Option.some.injEq] at e; subst e; exact .int b
  | _, _, p, .str b, e => by simp only [D.py, Option.some.injEq] at e; subst e; exact .str b
  | _, _, p, .tup (ds := ds) h r, e => by
    simp only [D.py] at e
    cases q : D.pys ds with
    | none => rw [q] at e; cases e
    | some ps =>
      rw [q] at e
      cases e
      exact .tup h (RpL.dp r q)
  | _, _, p, .lst (ds := ds) h r, e => by
    simp only [D.py] at e
    cases q : D.pys ds with
    | none => rw [q] at e; cases e
    | some ps =>
      rw [q] at e
      cases e
      exact .lst (.inl (.inl h)) (RpL.dp r q)
  | _, _, p, .scr _ _, e => by simp [D.py] at e
  | _, _, p, .fn _, e => by simp [D.py] at e
  | _, _, p, .cl _, e => by simp [D.py] at e
  | _, _, p, .err _ _ _, e => by simp [D.py] at e
  | _, _, p, .dr _, e => by simp [D.py] at e
  | _, _, p, .emp _, e => by simp [D.py] at e
theorem RpL.dp {G : Hp} : ∀ {v : List V} {d : List D} {p : List PyData}, RpL Z G v d → D.pys d = some p → DpAll Z.K G v p
  | _, _, p, .nil, e => by simp only [D.pys, Option.some.injEq] at e; subst e; exact .nil
  | _, _, p, .cons (d := d) (ds := ds) h r, e => by
    simp only [D.pys] at e
    cases q1 : D.py d with
    | none => rw [q1] at e; simp at e
    | some p1 =>
      cases q2 : D.pys ds with
      | none => rw [q1, q2] at e; simp at e
      | some p2 =>
        rw [q1, q2] at e
        have e' : p1 :: p2 = p := Option.some.inj e
        subst e'
        exact .cons (Rp.dp h q1) (RpL.dp r q2)
end
mutual
theorem Dp.sub {K : PySem.W.Frag} {G G' : Hp} (s : Sub G G') : ∀ {v : V} {p : PyData}, Dp K G v p → Dp K G' v p
  | _, _, .non => .non
  | _, _, .bl b => .bl b
  | _, _, .int i => .int i
  | _, _, .str x => .str x
  | _, _, .tup h r => .tup (SqT.sub s h) (DpAll.sub s r)
  | _, _, .lst h r => .lst (SqL.sub s h) (DpAll.sub s r)
theorem DpAll.sub {K : PySem.W.Frag} {G G' : Hp} (s : Sub G G') : ∀ {v : List V} {p : List PyData}, DpAll K G v p → DpAll K G' v p
  | _, _, .nil => .nil
  | _, _, .cons h r => .cons (Dp.sub s h) (DpAll.sub s r)
end

/-! ### what is kept -/
structure Nx (G H G' H' : Hp) : Prop where
  g : Sub G G'
  h : ∀ b o, H b = some o → (∀ ps, o ≠ .tbl ps) → (∀ m, G b = some m → isMk m = false) → H' b = some o
  dom : ∀ b, H b ≠ none → H' b ≠ none
  new : ∀ b, G' b ≠ none → G b ≠ none ∨ H b = none
theorem Nx.refl (G H : Hp) : Nx G H G H := ⟨fun _ _ h => h, fun _ _ h _ _ => h, fun _ h => h, fun _ h => .inl h⟩
theorem Nx.trans {G0 H0 G1 H1 G2 H2 : Hp} (a : Nx G0 H0 G1 H1) (b : Nx G1 H1 G2 H2) : Nx G0 H0 G2 H2 where
  g := fun c o h => b.g c o (a.g c o h)
  h := fun c o e n m => b.h c o (a.h c o e n m) n fun k q => by
    rcases a.new c (by rw [q]; simp) with z | z
    · cases q0 : G0 c with
      | none => exact absurd q0 z
      | some k0 =>
        have := a.g c k0 q0
        rw [q] at this; cases this
        exact m _ q0
    · rw [e] at z; cases z
  dom := fun c h => b.dom c (a.dom c h)
  new := fun c h => by
    rcases b.new c h with z | z
    · exact a.new c z
    · refine .inr ?_
      cases q : H0 c with
      | none => rfl
      | some o => exact absurd z (a.dom c (by rw [q]; simp))
/-- a new object -/
theorem Nx.alloc {G H : Hp} {p : Addr} {o : HO} (hp : H p = none) : Nx G H G (upd H p o) :=
  ⟨fun _ _ h => h, fun b u h _ _ => by rw [upd_ne (ne_of_none h hp)]; exact h, fun b h => by
    by_cases e : b = p
    · rw [e, upd_same]; simp
    · rw [upd_ne e]; exact h, fun _ h => .inl h⟩
theorem Nx.ofSub {G H H' : Hp} (s : Sub H H') : Nx G H G H' :=
  ⟨fun _ _ h => h, fun b u h _ _ => s b u h, fun b h => by
    cases q : H b with
    | none => exact absurd q h
    | some o => rw [s b o q]; simp, fun _ h => .inl h⟩

/-! ### the draws -/
def DwOk (Z : Zed) (G H : Hp) (w : Dw) : Prop :=
  if w.on = true then ∃ (a l : Addr) (kvs : List (Key × V)) (xs : List V) (vr vc vt : V), G a = some mkD ∧ G l = some mkL ∧ (∀ b, G b = some mkD → b = a) ∧ (∀ b, G b = some mkL → b = l) ∧
      H a = some (.dK kvs) ∧ kvs.length ≤ 100 ∧ valV kvs (.inr "large") = some (.ref l) ∧ valV kvs (.inr "rest") = some vr ∧ valV kvs (.inr "cells") = some vc ∧ valV kvs (.inr "turn") = some vt ∧
      H l = some (.lst xs) ∧ RpL Z G xs w.large ∧ Rp Z G vr w.rest ∧ Rp Z G vc w.cells ∧ Rp Z G vt w.turn
  else ∀ b o, G b = some o → isMk o = false

/-- the whole, but for the slots -/
structure Gg (Z : Zed) (G H : Hp) (w : Dw) : Prop where
  gok : ∀ b o, G b = some o → isMk o = false → H b = some o
  gty : ∀ b o, G b = some o → ∀ ps, o ≠ .tbl ps
  gin : ∀ b o, G b = some o → H b ≠ none
  mks : ∀ b o, G b = some o → isMk o = true → o = mkD ∨ o = mkL
  dw : DwOk Z G H w
  tab : LamX.Tabs Z.T H

structure Stt (Z : Zed) (G0 E0 G H : Hp) (σ : St) (ρ : En) (w : Dw) : Prop where
  nx : Nx G0 E0 G H
  gl : Gg Z G H w
  len : σ.length = ρ.length
  val : ∀ (i : Nat) (d : D), ρ[i]? = some (Sl.v d) → ∃ v, σ[i]? = some (some v) ∧ Rp Z G v d
  own : ∀ (i : Nat) (ds : List D), ρ[i]? = some (Sl.own ds) → ∃ a xs, σ[i]? = some (some (V.ref a)) ∧ H a = some (.lst xs) ∧ G a = none ∧ E0 a = none ∧ RpL Z G xs ds
  apt : ∀ (i j : Nat) (ds es : List D) (a : Addr), i ≠ j → ρ[i]? = some (Sl.own ds) → ρ[j]? = some (Sl.own es) → σ[i]? = some (some (V.ref a)) → σ[j]? ≠ some (some (V.ref a))
/-- how a value stands for what the code gives: H0 the heap ahead of it -/
def RR (Z : Zed) (H0 G H : Hp) (σ : St) (ρ : En) (v : V) : RV → Prop
  | .v d => Rp Z G v d
  | .n ds => ∃ a xs, v = .ref a ∧ H a = some (.lst xs) ∧ G a = none ∧ H0 a = none ∧ RpL Z G xs ds
  | .m i ds => ∃ a xs, v = .ref a ∧ σ[i]? = some (some (V.ref a)) ∧ ρ[i]? = some (Sl.own ds) ∧ H a = some (.lst xs) ∧ RpL Z G xs ds
theorem Stt.fresh {G0 E0 G H : Hp} {σ : St} {ρ : En} {w : Dw} (S : Stt Z G0 E0 G H σ ρ w) {p : Addr} (h : H p = none) : G p = none := by
  cases q : G p with
  | none => rfl
  | some o => exact absurd h (S.gl.gin p o q)
theorem Gg.fresh {G H : Hp} {w : Dw} (S : Gg Z G H w) {p : Addr} (h : H p = none) : G p = none := by
  cases q : G p with
  | none => rfl
  | some o => exact absurd h (S.gin p o q)
theorem Gg.sqL {G H : Hp} {w : Dw} (S : Gg Z G H w) {a : Addr} {xs : List V} (h : SqL Z.K G a xs) : SqL Z.K H a xs := by
  rcases h with (h | ⟨o, h⟩) | h
  · exact .inl (.inl (S.gok _ _ h rfl))
  · exact .inl (.inr ⟨o, S.gok _ _ h rfl⟩)
  · exact .inr h
theorem Gg.sqT {G H : Hp} {w : Dw} (S : Gg Z G H w) {a : Addr} {xs : List V} (h : SqT Z.K G a xs) : SqT Z.K H a xs := by
  rcases h with (h | ⟨o, h⟩) | h
  · exact .inl (.inl (S.gok _ _ h rfl))
  · exact .inl (.inr ⟨o, S.gok _ _ h rfl⟩)
  · exact .inr h
mutual
theorem Gg.dp {G H : Hp} {w : Dw} (S : Gg Z G H w) : ∀ {v : V} {p : PyData}, Dp Z.K G v p → Dp Z.K H v p
  | _, _, .non => .non
  | _, _, .bl b => .bl b
  | _, _, .int i => .int i
  | _, _, .str x => .str x
  | _, _, .tup h r => .tup (S.sqT h) (Gg.dps S r)
  | _, _, .lst h r => .lst (S.sqL h) (Gg.dps S r)
theorem Gg.dps {G H : Hp} {w : Dw} (S : Gg Z G H w) : ∀ {v : List V} {p : List PyData}, DpAll Z.K G v p → DpAll Z.K H v p
  | _, _, .nil => .nil
  | _, _, .cons h r => .cons (Gg.dp S h) (Gg.dps S r)
end
/-- a value stays what it is -/
theorem RR.mono {H0 G H G' H' : Hp} {σ : St} {ρ : En} {v : V} {w : Dw} {r : RV} (g : Gg Z G H w) (x : Nx G H G' H') (h : RR Z H0 G H σ ρ v r) (hn : ∀ i ds, r = .m i ds → ∀ a, v = .ref a → G a = none) : RR Z H0 G' H' σ ρ v r := by
  cases r with
  | v d => exact Rp.sub x.g h
  | n ds =>
    obtain ⟨a, xs, e, h1, h2, h3, h4⟩ := h
    refine ⟨a, xs, e, x.h a _ h1 (fun _ z => by cases z) (fun m z => by rw [h2] at z; cases z), ?_, h3, RpL.sub x.g h4⟩
    cases q : G' a with
    | none => rfl
    | some o =>
      rcases x.new a (by rw [q]; simp) with z | z
      · exact absurd h2 z
      · rw [h1] at z; cases z
  | m i ds =>
    obtain ⟨a, xs, e, h1, h2, h3, h4⟩ := h
    have ga := hn i ds rfl a e
    exact ⟨a, xs, e, h1, h2, x.h a _ h3 (fun _ z => by cases z) (fun m z => by rw [ga] at z; cases z), RpL.sub x.g h4⟩
theorem Stt.mG {G0 E0 G H : Hp} {σ : St} {ρ : En} {w : Dw} (S : Stt Z G0 E0 G H σ ρ w) {v : V} {i : Nat} {ds : List D} {H0 : Hp} (h : RR Z H0 G H σ ρ v (.m i ds)) : ∀ a, v = .ref a → G a = none := by
  obtain ⟨a, xs, e, h1, h2, h3, h4⟩ := h
  intro b eb
  rw [e] at eb
  cases eb
  obtain ⟨a', xs', e1, _, e3, _⟩ := S.own i ds h2
  rw [h1] at e1
  cases e1
  exact e3
theorem Stt.rrMono {G0 E0 G H G' H' H0 : Hp} {σ : St} {ρ : En} {w : Dw} (S : Stt Z G0 E0 G H σ ρ w) (x : Nx G H G' H') {v : V} {r : RV} (h : RR Z H0 G H σ ρ v r) : RR Z H0 G' H' σ ρ v r :=
  RR.mono S.gl x h fun i ds e a ea => by subst e; exact S.mG h a ea
/-- the same state over a later heap -/
theorem Stt.next {G0 E0 G H G' H' : Hp} {σ : St} {ρ : En} {w w' : Dw} (S : Stt Z G0 E0 G H σ ρ w) (x : Nx G H G' H') (g : Gg Z G' H' w') : Stt Z G0 E0 G' H' σ ρ w' where
  nx := S.nx.trans x
  gl := g
  len := S.len
  val := fun i d e => let ⟨v, h1, h2⟩ := S.val i d e; ⟨v, h1, Rp.sub x.g h2⟩
  own := fun i ds e => by
    obtain ⟨a, xs, h1, h2, h3, h4, h5⟩ := S.own i ds e
    refine ⟨a, xs, h1, x.h a _ h2 (fun _ z => by cases z) (fun m z => by rw [h3] at z; cases z), ?_, h4, RpL.sub x.g h5⟩
    cases q : G' a with
    | none => rfl
    | some o =>
      rcases x.new a (by rw [q]; simp) with z | z
      · exact absurd h3 z
      · rw [h2] at z; cases z
  apt := S.apt
/-- a new object that is no table -/
theorem Gg.alloc {G H : Hp} {w : Dw} (S : Gg Z G H w) {p : Addr} {o : HO} (hp : H p = none) : Gg Z G (upd H p o) w where
  gok := fun b u e n => by
    have q := S.gok b u e n
    rw [upd_ne (ne_of_none q hp)]
    exact q
  gty := S.gty
  gin := fun b u e => by
    by_cases z : b = p
    · rw [z, upd_same]; simp
    · rw [upd_ne z]; exact S.gin b u e
  mks := S.mks
  dw := by
    have d := S.dw
    unfold DwOk at d ⊢
    split at d
    · rename_i on
      rw [if_pos on]
      obtain ⟨a, l, kvs, xs, vr, vc, vt, h1, h2, h3, h4, h5, h6, h7, h8, h9, h10, h11, h12⟩ := d
      exact ⟨a, l, kvs, xs, vr, vc, vt, h1, h2, h3, h4, by rw [upd_ne (ne_of_none h5 hp)]; exact h5, h6, h7, h8, h9, h10, by rw [upd_ne (ne_of_none h11 hp)]; exact h11, h12⟩
    · rename_i on
      rw [if_neg on]
      exact d
  tab := S.tab.ext fun b u e => by rw [upd_ne (ne_of_none e hp)]; exact e
/-- an object of the heap, no table, not written any more -/
theorem Gg.freeze {G H : Hp} {w : Dw} (S : Gg Z G H w) {p : Addr} {o : HO} (hp : H p = some o) (gp : G p = none) (ht : ∀ ps, o ≠ .tbl ps) (hm : isMk o = false) : Gg Z (upd G p o) H w where
  gok := fun b u e n => by
    by_cases z : b = p
    · rw [z, upd_same] at e; cases e; rw [z]; exact hp
    · rw [upd_ne z] at e; exact S.gok b u e n
  gty := fun b u e => by
    by_cases z : b = p
    · rw [z, upd_same] at e; cases e; exact ht
    · rw [upd_ne z] at e; exact S.gty b u e
  gin := fun b u e => by
    by_cases z : b = p
    · rw [z, hp]; simp
    · rw [upd_ne z] at e; exact S.gin b u e
  mks := fun b u e n => by
    by_cases z : b = p
    · rw [z, upd_same] at e; cases e; rw [hm] at n; cases n
    · rw [upd_ne z] at e; exact S.mks b u e n
  dw := by
    have sub : Sub G (upd G p o) := fun b u e => by rw [upd_ne (ne_of_none e gp)]; exact e
    have back : ∀ b m, isMk m = true → upd G p o b = some m → G b = some m := fun b m hm' e => by
      by_cases z : b = p
      · rw [z, upd_same] at e; cases e; rw [hm] at hm'; cases hm'
      · rw [upd_ne z] at e; exact e
    have d := S.dw
    unfold DwOk at d ⊢
    split at d
    · rename_i on
      rw [if_pos on]
      obtain ⟨a, l, kvs, xs, vr, vc, vt, h1, h2, h3, h4, h5, h6, h7, h8, h9, h10, h11, h12, h13, h14, h15⟩ := d
      exact ⟨a, l, kvs, xs, vr, vc, vt, sub _ _ h1, sub _ _ h2, fun b e => h3 b (back b _ rfl e), fun b e => h4 b (back b _ rfl e), h5, h6, h7, h8, h9, h10, h11, RpL.sub sub h12, Rp.sub sub h13, Rp.sub sub h14, Rp.sub sub h15⟩
    · rename_i on
      rw [if_neg on]
      intro b u e
      by_cases z : b = p
      · rw [z, upd_same] at e; cases e; exact hm
      · rw [upd_ne z] at e; exact d b u e
  tab := S.tab
theorem sub_upd {G : Hp} {p : Addr} {o : HO} (gp : G p = none) : Sub G (upd G p o) := fun b u e => by rw [upd_ne (ne_of_none e gp)]; exact e
/-- .. relative to a heap where it was not yet -/
theorem Nx.freeze {G H G1 H1 : Hp} (x : Nx G H G1 H1) {p : Addr} {o : HO} (gp : G1 p = none) (h0 : H p = none) : Nx G H (upd G1 p o) H1 :=
  ⟨fun b u e => sub_upd gp b u (x.g b u e), x.h, x.dom, fun b e => by
    by_cases z : b = p
    · rw [z]; exact .inr h0
    · rw [upd_ne z] at e; exact x.new b e⟩
/-- data out of what an expression gave -/
theorem RR.data {G0 E0 G H G1 H1 : Hp} {σ : St} {ρ : En} {w w1 : Dw} {v : V} {r : RV} {d : D} (S : Stt Z G0 E0 G H σ ρ w) (x : Nx G H G1 H1) (S1 : Stt Z G0 E0 G1 H1 σ ρ w1) (h : RR Z H G1 H1 σ ρ v r) (e : r.toD = some d) :
    ∃ G2, Sub G1 G2 ∧ Nx G H G2 H1 ∧ Stt Z G0 E0 G2 H1 σ ρ w1 ∧ Rp Z G2 v d ∧ ∀ b, G1 b = none → (∀ ds, r = .n ds → v ≠ .ref b) → G2 b = none := by
  cases r with
  | v d' =>
    cases e
    exact ⟨G1, fun _ _ h => h, x, S1, h, fun _ h _ => h⟩
  | n ds =>
    cases e
    obtain ⟨a, xs, ev, h1, h2, h3, h4⟩ := h
    have s := sub_upd (o := .lst xs) h2
    refine ⟨upd G1 a (.lst xs), s, x.freeze h2 h3, ?_, by rw [ev]; exact .lst upd_same (RpL.sub s h4), fun b hb hn => by rw [upd_ne (fun z => hn ds rfl (by rw [ev, z]))]; exact hb⟩
    have e0 : E0 a = none := by
      cases q : E0 a with
      | none => rfl
      | some o => exact absurd h3 (S.nx.dom a (by rw [q]; simp))
    refine ⟨S1.nx.freeze h2 e0, S1.gl.freeze h1 h2 (fun _ z => by cases z) rfl, S1.len, fun i d e => ?_, fun i ds e => ?_, S1.apt⟩
    · obtain ⟨v, q1, q2⟩ := S1.val i d e
      exact ⟨v, q1, Rp.sub s q2⟩
    · obtain ⟨b, ys, q1, q2, q3, q4, q5⟩ := S1.own i ds e
      by_cases z : b = a
      · subst z
        obtain ⟨c, zs, p1, p2, _⟩ := S.own i ds e
        rw [q1] at p1
        cases p1
        rw [h3] at p2
        cases p2
      · exact ⟨b, ys, q1, q2, by rw [upd_ne z]; exact q3, q4, RpL.sub s q5⟩
  | m i ds => cases e
end VM
set_option Elab.async false
set_option linter.all false
set_option maxRecDepth 100000
/-! VmC: what an expression's reading says; operators. -/
namespace VM
open PySem PySem.Spec L2
theorem PE.imp {X : Cx} {e : Expr} {t t' : TE} (h : PE X e t) (i : ∀ σ H Q, t' σ H Q → t σ H Q) : PE X e t' := ⟨fun pins s σ H Q I q => h.run pins s σ H Q I (i σ H Q q)⟩
theorem PT.imp {X : Cx} {e : Expr} {t t' : TT} (h : PT X e t) (i : ∀ σ H Q, t' σ H Q → t σ H Q) : PT X e t' := ⟨fun pins s σ H Q I q => h.run pins s σ H Q I (i σ H Q q)⟩
theorem PA.imp {X : Cx} {e : List Expr} {t t' : TA} (h : PA X e t) (i : ∀ σ H Q, t' σ H Q → t σ H Q) : PA X e t' := ⟨fun pos pins s σ H Q I q => h.run pos pins s σ H Q I (i σ H Q q)⟩
theorem PS.imp {X : Cx} {e : Stmt} {t t' : TS} (h : PS X e t) (i : ∀ D σ H, t' D σ H → t D σ H) : PS X e t' := ⟨fun pins s σ H Q I q => h.run pins s σ H Q I (i Q σ H q)⟩
theorem PSs.imp {X : Cx} {e : List Stmt} {t t' : TS} (h : PSs X e t) (i : ∀ D σ H, t' D σ H → t D σ H) : PSs X e t' := ⟨fun pins s σ H Q I q => h.run pins s σ H Q I (i Q σ H q)⟩

/-- an exception in the heap -/
def ErR (Z : Zed) (G : Hp) (e : Er) (cls : Value) (d : Option Addr) : Prop := ∃ vs, cls = .ref (Z.ca e.c) ∧ FldAt Z G e.c d vs ∧ RpL Z G vs e.fs
section
variable (Z : Zed) (Wx : Value → Option Addr → Hp → Prop) (G0 E0 : Hp)
def Out {α : Type} (K : α → Dw → Prop) : Res α → Prop
  | .ok a w => K a w
  | .exc e w => ∀ cls d G' H', Nx G0 E0 G' H' → Gg Z G' H' w → ErR Z G' e cls d → Wx cls d H'
  | .bad => False
/-- what an expression gives -/
def KE (G H : Hp) (σ : St) (ρ : En) (Q : VK) : RV → Dw → Prop := fun r w' => ∀ v G' H', Nx G H G' H' → Stt Z G0 E0 G' H' σ ρ w' → RR Z H G' H' σ ρ v r → Q v H'
def SE (f : En → Dw → Res RV) : TE := fun σ H Q => ∃ G ρ w, Stt Z G0 E0 G H σ ρ w ∧ Out Z Wx G0 E0 (KE Z G0 E0 G H σ ρ Q) (f ρ w)
def ST (f : En → Dw → Res RV) : TT := fun σ H Q => ∃ G ρ w, Stt Z G0 E0 G H σ ρ w ∧ Out Z Wx G0 E0 (fun r w' => ∃ b, r.truthy = some b ∧ ∀ G' H', Nx G H G' H' → Stt Z G0 E0 G' H' σ ρ w' → Q b H') (f ρ w)
end
section
variable {Z : Zed} {Wx : Value → Option Addr → Hp → Prop} {G0 E0 : Hp}
theorem Out.mono {α : Type} {K K' : α → Dw → Prop} {r : Res α} (h : Out Z Wx G0 E0 K r) (i : ∀ a w, K a w → K' a w) : Out Z Wx G0 E0 K' r := by
  cases r with
  | ok a w => exact i a w h
  | exc e w => exact h
  | bad => exact h
theorem out_bind {α β : Type} {K : β → Dw → Prop} {r : Res α} {k : α → Dw → Res β} : Out Z Wx G0 E0 K (r.bind k) ↔ Out Z Wx G0 E0 (fun a w => Out Z Wx G0 E0 K (k a w)) r := by
  cases r <;> exact Iff.rfl
theorem out_opt {α : Type} {K : α → Dw → Prop} {o : Option α} {w : Dw} : Out Z Wx G0 E0 K (.opt o w) ↔ ∃ a, o = some a ∧ K a w := by
  cases o with
  | none => exact ⟨fun h => h.elim, fun ⟨_, h, _⟩ => nomatch h⟩
  | some a => exact ⟨fun h => ⟨a, rfl, h⟩, fun ⟨b, e, h⟩ => by cases e; exact h⟩

/-- what sequences are -/
theorem RR.seqT {H0 G H : Hp} {σ : St} {ρ : En} {w : Dw} {v : V} {r : RV} {ds : List D} (g : Gg Z G H w) (h : RR Z H0 G H σ ρ v r) (e : r.seq = some (true, ds)) : ∃ a xs, v = .ref a ∧ SqT Z.K H a xs ∧ RpL Z G xs ds ∧ r = .v (.tup ds) ∧ SqT Z.K G a xs := by
  cases r with
  | v d =>
    cases d with
    | tup es =>
      cases e
      cases h with
      | tup h1 h2 => exact ⟨_, _, rfl, g.sqT h1, h2, rfl, h1⟩
    | _ => cases e
  | n es => cases e
  | m i es => cases e
theorem RR.seqL {H0 G H : Hp} {σ : St} {ρ : En} {w : Dw} {v : V} {r : RV} {ds : List D} (g : Gg Z G H w) (h : RR Z H0 G H σ ρ v r) (e : r.seq = some (false, ds)) : ∃ a xs, v = .ref a ∧ H a = some (.lst xs) ∧ RpL Z G xs ds := by
  cases r with
  | v d =>
    cases d with
    | lst es =>
      cases e
      cases h with
      | lst h1 h2 => exact ⟨_, _, rfl, g.gok _ _ h1 rfl, h2⟩
    | _ => cases e
  | n es =>
    cases e
    obtain ⟨a, xs, e1, h1, _, _, h2⟩ := h
    exact ⟨a, xs, e1, h1, h2⟩
  | m i es =>
    cases e
    obtain ⟨a, xs, e1, _, _, h1, h2⟩ := h
    exact ⟨a, xs, e1, h1, h2⟩
theorem RR.seqA {H0 G H : Hp} {σ : St} {ρ : En} {w : Dw} {v : V} {r : RV} {ds : List D} {k : Bool} (g : Gg Z G H w) (h : RR Z H0 G H σ ρ v r) (e : r.seq = some (k, ds)) : ∃ a xs, v = .ref a ∧ (SqL Z.K H a xs ∨ SqT Z.K H a xs) ∧ RpL Z G xs ds := by
  cases k with
  | true =>
    obtain ⟨a, xs, h1, h2, h3, _⟩ := h.seqT g e
    exact ⟨a, xs, h1, .inr h2, h3⟩
  | false =>
    obtain ⟨a, xs, h1, h2, h3⟩ := h.seqL g e
    exact ⟨a, xs, h1, .inl (SqL.of h2), h3⟩
theorem RR.look {H0 G H : Hp} {σ : St} {ρ : En} {w : Dw} {v : V} {r : RV} {p : PyData} (g : Gg Z G H w) (h : RR Z H0 G H σ ρ v r) (e : r.look.py = some p) : Dp Z.K H v p := by
  cases r with
  | v d => exact g.dp (Rp.dp h e)
  | n es =>
    obtain ⟨a, xs, e1, h1, _, _, h2⟩ := h
    have e : (D.lst es).py = some p := e
    simp only [D.py] at e
    cases q : D.pys es with
    | none => rw [q] at e; cases e
    | some ps =>
      rw [q] at e
      cases e
      rw [e1]
      exact .lst (SqL.of h1) (g.dps (RpL.dp h2 q))
  | m i es =>
    obtain ⟨a, xs, e1, _, _, h1, h2⟩ := h
    have e : (D.lst es).py = some p := e
    simp only [D.py] at e
    cases q : D.pys es with
    | none => rw [q] at e; cases e
    | some ps =>
      rw [q] at e
      cases e
      rw [e1]
      exact .lst (SqL.of h1) (g.dps (RpL.dp h2 q))

/-- no change -/
theorem KE.here {G H : Hp} {σ : St} {ρ : En} {w : Dw} {Q : VK} {r : RV} (S : Stt Z G0 E0 G H σ ρ w) (h : KE Z G0 E0 G H σ ρ Q r w) {v : V} (rr : RR Z H G H σ ρ v r) : Q v H := h v G H (Nx.refl G H) S rr
/-- a new tuple -/
theorem KE.newT {G H : Hp} {σ : St} {ρ : En} {w : Dw} {Q : VK} {xs : List V} {ds : List D} (S : Stt Z G0 E0 G H σ ρ w) (h : KE Z G0 E0 G H σ ρ Q (.v (.tup ds)) w) (r : RpL Z G xs ds) {p : Addr} (hp : H p = none) : Q (.ref p) (upd H p (.tup xs)) := by
  have gp := S.fresh hp
  have s := sub_upd (o := .tup xs) gp
  have x : Nx G H (upd G p (.tup xs)) (upd H p (.tup xs)) := (Nx.alloc hp).freeze gp hp
  exact h _ _ _ x (S.next x (S.gl.alloc hp |>.freeze upd_same gp (fun _ z => by cases z) rfl)) (.tup (SqT.of upd_same) (RpL.sub s r))
/-- a new list -/
theorem KE.newL {G H : Hp} {σ : St} {ρ : En} {w : Dw} {Q : VK} {xs : List V} {ds : List D} (S : Stt Z G0 E0 G H σ ρ w) (h : KE Z G0 E0 G H σ ρ Q (.n ds) w) (r : RpL Z G xs ds) {p : Addr} (hp : H p = none) : Q (.ref p) (upd H p (.lst xs)) := by
  have gp := S.fresh hp
  have x : Nx G H G (upd H p (.lst xs)) := Nx.alloc hp
  exact h _ _ _ x (S.next x (S.gl.alloc hp)) ⟨p, xs, rfl, upd_same, gp, hp, r⟩
theorem OpR.or {X : Cx} {f : Value → Value → Sem Value} {r1 r2 : R2} (h1 : OpR X f r1) (h2 : OpR X f r2) : OpR X f (fun x y H Q => r1 x y H Q ∨ r2 x y H Q) := by
  intro pins s σ H x y v u Q I rx ry h
  rcases h with h | h
  · exact h1 pins s σ H x y v u Q I rx ry h
  · exact h2 pins s σ H x y v u Q I rx ry h
/-- an operator's rule is one for the code's operator -/
def OpS (Z : Zed) (G0 E0 : Hp) (o : RV → RV → Option RV) (r : R2) : Prop :=
  ∀ {G H Ha Hb : Hp} {σ : St} {ρ : En} {w : Dw} {a b c : RV} {x y : V} {Q : VK}, Stt Z G0 E0 G H σ ρ w → RR Z Ha G H σ ρ x a → RR Z Hb G H σ ρ y b → o a b = some c → KE Z G0 E0 G H σ ρ Q c w → r x y H Q
theorem KE.trans {G H G1 H1 : Hp} {σ : St} {ρ : En} {w : Dw} {Q : VK} {r : RV} (x : Nx G H G1 H1) (h : KE Z G0 E0 G H σ ρ Q r w) : KE Z G0 E0 G1 H1 σ ρ Q r w := fun v G' H' x' S' rr => by
  refine h v G' H' (x.trans x') S' ?_
  cases r with
  | v d => exact rr
  | n ds =>
    obtain ⟨a, xs, e, h1, h2, h3, h4⟩ := rr
    refine ⟨a, xs, e, h1, h2, ?_, h4⟩
    cases q : H a with
    | none => rfl
    | some o => exact absurd h3 (x.dom a (by rw [q]; simp))
  | m i ds => exact rr
theorem se_bin {f g : En → Dw → Res RV} {o : RV → RV → Option RV} {r : R2} (hr : OpS Z G0 E0 o r) {σ : St} {H : Hp} {Q : VK}
    (h : SE Z Wx G0 E0 (fun ρ w => (f ρ w).bind fun u w => (g ρ w).bind fun v w => .opt (o u v) w) σ H Q) : tOp r (SE Z Wx G0 E0 f) (SE Z Wx G0 E0 g) σ H Q := by
  obtain ⟨G, ρ, w, S, h⟩ := h
  refine ⟨G, ρ, w, S, (out_bind.mp h).mono fun u w1 h1 v1 G1 H1 x1 S1 r1 => ?_⟩
  refine ⟨G1, ρ, w1, S1, (out_bind.mp h1).mono fun u2 w2 h2 v2 G2 H2 x2 S2 r2 => ?_⟩
  obtain ⟨c, e, k⟩ := out_opt.mp h2
  exact hr S2 (S1.rrMono x2 r1) r2 e (KE.trans (x1.trans x2) k)
theorem se_un {f : En → Dw → Res RV} {o : RV → Option RV} {r : V → Hp → VK → Prop}
    (hr : ∀ {G H Ha : Hp} {σ : St} {ρ : En} {w : Dw} {a c : RV} {x : V} {Q : VK}, Stt Z G0 E0 G H σ ρ w → RR Z Ha G H σ ρ x a → o a = some c → KE Z G0 E0 G H σ ρ Q c w → r x H Q) {σ : St} {H : Hp} {Q : VK}
    (h : SE Z Wx G0 E0 (fun ρ w => (f ρ w).bind fun u w => .opt (o u) w) σ H Q) : tUn r (SE Z Wx G0 E0 f) σ H Q := by
  obtain ⟨G, ρ, w, S, h⟩ := h
  refine ⟨G, ρ, w, S, (out_bind.mp h).mono fun u w1 h1 v1 G1 H1 x1 S1 r1 => ?_⟩
  obtain ⟨c, e, k⟩ := out_opt.mp h1
  exact hr S1 r1 e (KE.trans x1 k)
theorem rr_int {H0 G H : Hp} {σ : St} {ρ : En} {v : V} {i : Int} (h : RR Z H0 G H σ ρ v (.v (.int i))) : v = .int i := by cases h; rfl
theorem rr_str {H0 G H : Hp} {σ : St} {ρ : En} {v : V} {i : Str} (h : RR Z H0 G H σ ρ v (.v (.str i))) : v = .str i := by cases h; rfl
theorem rr_bl {H0 G H : Hp} {σ : St} {ρ : En} {v : V} {i : Bool} (h : RR Z H0 G H σ ρ v (.v (.bl i))) : v = .bl i := by cases h; rfl
end
end VM
set_option Elab.async false
set_option linter.all false
set_option maxRecDepth 100000
set_option maxHeartbeats 4000000
/-! VmC2: tuple * int, whatever the int. -/
namespace VM
open PySem PySem.Spec PyProof.Rows L2
theorem tuple_mul1 (l : Addr) (items : Array Value) (n : Nat) (dd : Option Addr) (sl : Array (Option Value)) (x : Int) (u : Tok) (c0 : (decide (x < -(2 ^ 63)) || decide (x ≥ 2 ^ 63)) = false) (c1 : (items.isEmpty || x == 1) = true) :
    Meets (Builtin.«tuple.__mul__» ⟨[.ref l, .int x u], []⟩) (fun _ R s => s.heap.get? l = some { cls := .type "tuple", dict := dd, data := .seq items n, slots := sl } ∧ R (.ok (.ret (Value.ref l))) s) :=
  .of_wp fun prog w A R s h => by
    obtain ⟨hp, g, d, tk, os⟩ := s
    obtain ⟨hl, h⟩ := h
    have f1 := AutoSeq1.idx_int
    wp_walk using wpAny_loadPart' hl
    refine wpAny_ite_false (decide_eq_false (by rw [c0]; exact Bool.false_ne_true)) ?_
    wp_walk using wpAny_loadPart' hl
    exact ⟨_, rfl, h⟩
theorem tuple_mul0 (l : Addr) (items : Array Value) (n : Nat) (dd : Option Addr) (sl : Array (Option Value)) (x : Int) (u : Tok) (c0 : (decide (x < -(2 ^ 63)) || decide (x ≥ 2 ^ 63)) = false) (c1 : (items.isEmpty || x == 1) = false) (c2 : (decide (x ≤ 0) || items.isEmpty) = true) :
    Meets (Builtin.«tuple.__mul__» ⟨[.ref l, .int x u], []⟩) (fun _ R s => s.heap.get? l = some { cls := .type "tuple", dict := dd, data := .seq items n, slots := sl } ∧
      R (.ok (.ret (Value.ref s.heap.objs.size))) { s with heap := s.heap.push { cls := Value.type "tuple", data := Data.seq #[] }, toks := s.toks }) :=
  .of_wp fun prog w A R s h => by
    obtain ⟨hp, g, d, tk, os⟩ := s
    obtain ⟨hl, h⟩ := h
    have f1 := AutoSeq1.idx_int
    wp_walk using wpAny_loadPart' hl
    refine wpAny_ite_false (decide_eq_false (by rw [c0]; exact Bool.false_ne_true)) ?_
    wp_walk using wpAny_loadPart' hl
    exact ⟨_, rfl, h⟩
def rRep0 (K : PySem.W.Frag) : R2 := fun x y H Q => ∃ l k xs, x = .ref l ∧ y = .int k ∧ SqT K H l xs ∧ -(2 ^ 63) ≤ k ∧ k < 2 ^ 63 ∧ (xs = [] ∨ k ≤ 1) ∧ ((xs = [] ∨ k = 1) → Q (.ref l) H) ∧ (¬ (xs = [] ∨ k = 1) → ∀ p, H p = none → Q (.ref p) (upd H p (.tup [])))
theorem op_rep0 {X : Cx} : OpR X (binaryOp .Mult) (rRep0 X.K) := by
  intro pins s σ H x y v u Q I rx ry h
  obtain ⟨l, k, xs, rfl, rfl, hT, h1, h2, hz, qs, qn⟩ := h
  cases rx
  obtain ⟨t, rfl⟩ := ry
  obtain ⟨its, r, ⟨⟨cls, dd, data, sl⟩, ho, hc, n, hd⟩, hs⟩ := I.tuple hT
  simp only at hc hd
  subst hc hd
  have hle : its.length = xs.length := r.length.symm
  have c0 : (decide (k < -(2 ^ 63)) || decide (k ≥ 2 ^ 63)) = false := by
    rw [decide_eq_false (by omega), decide_eq_false (by omega)] <;> rfl
  have hemp : its.toArray.isEmpty = decide (xs = []) := by
    cases its with
    | nil =>
      have : xs = [] := List.eq_nil_of_length_eq_zero hle.symm
      rw [this]; rfl
    | cons a b =>
      have : xs ≠ [] := fun e => by rw [e] at hle; cases hle
      rw [decide_eq_false this]; rfl
  by_cases hc : xs = [] ∨ k = 1
  · have c1 : (its.toArray.isEmpty || k == 1) = true := by
      rw [hemp]
      rcases hc with e | e
      · rw [decide_eq_true e, Bool.true_or]
      · rw [e]; exact Bool.or_true _
    refine wpAny_binaryOp_repeat_ref (T := "tuple") (U := "int") (by decide) ⟨_, ho, rfl⟩ (fun s' => typeIs_int s' k t) noFill_tuple_mul F.fills_int_mul F.slot_int_rmul repeat_tuple F.slot_int_index.lookup
      (call_meets F.slot_int_rmul (typeIs_int s k t) F.entry_int_rmul (F.args_int_rmul_2 _ _) (int_rmul_tuple k t l its.toArray n dd sl)
        ⟨ho, rfl, ⟨_, ho, rfl⟩, call_meets F.slot_tuple_mul ⟨_, ho, rfl⟩ F.entry_tuple_mul (F.args_tuple_mul_2 _ _) (tuple_mul1 l its.toArray n dd sl k t c0 c1) ⟨ho, ?_⟩⟩)
    exact ⟨.ref l, H, I, rfl, qs hc⟩
  · have c1 : (its.toArray.isEmpty || k == 1) = false := by
      rw [hemp, decide_eq_false (fun e => hc (.inl e)), Bool.false_or]
      exact beq_eq_false_iff_ne.mpr fun e => hc (.inr e)
    have c2 : (decide (k ≤ 0) || its.toArray.isEmpty) = true := by
      have k1 : k ≠ 1 := fun e => hc (.inr e)
      have k0 : k ≤ 0 := by
        rcases hz with e | e
        · exact absurd (.inl e) hc
        · omega
      rw [decide_eq_true k0, Bool.true_or]
    refine wpAny_binaryOp_repeat_ref (T := "tuple") (U := "int") (by decide) ⟨_, ho, rfl⟩ (fun s' => typeIs_int s' k t) noFill_tuple_mul F.fills_int_mul F.slot_int_rmul repeat_tuple F.slot_int_index.lookup
      (call_meets F.slot_int_rmul (typeIs_int s k t) F.entry_int_rmul (F.args_int_rmul_2 _ _) (int_rmul_tuple k t l its.toArray n dd sl)
        ⟨ho, rfl, ⟨_, ho, rfl⟩, call_meets F.slot_tuple_mul ⟨_, ho, rfl⟩ F.entry_tuple_mul (F.args_tuple_mul_2 _ _) (tuple_mul0 l its.toArray n dd sl k t c0 c1 c2) ⟨ho, ?_⟩⟩)
    refine ⟨.ref s.heap.objs.size, _, I.laid (t' := s.toks) (o := .tup []) (fun b ob q => Heap.get?_push_of_some _ q) (Nat.le_refl _) ?_, rfl, qn hc _ (I.hok.fresh (Nat.le_refl _))⟩
    exact ⟨by rw [sizeLine_eq]; decide, [], .nil, IsTup.new _ _⟩
end VM
set_option Elab.async false
set_option linter.all false
set_option maxRecDepth 100000
/-! VmD: the operators' rules. -/
namespace VM
open PySem PySem.Spec L2
section
variable {Z : Zed} {G0 E0 : Hp}
def rAddA (K : PySem.W.Frag) : R2 := fun x y H Q => (((∃ i j, x = .int i ∧ y = .int j ∧ Q (.int (i + j)) H) ∨ (∃ i j, x = .str i ∧ y = .str j ∧ i.length + j.length ≤ sizeLine ∧ Q (.str (i ++ j)) H)) ∨ rCatA K x y H Q) ∨ rCat x y H Q
theorem op_addA {X : Cx} : OpR X (binaryOp .Add) (rAddA X.K) := ((op_add.or op_add_str).or op_catA).or op_cat
theorem rr_tup {H0 G H : Hp} {σ : St} {ρ : En} {v : V} {ds : List D} (h : RR Z H0 G H σ ρ v (.v (.tup ds))) : ∃ a xs, v = .ref a ∧ SqT Z.K G a xs ∧ RpL Z G xs ds := by
  cases h with
  | tup h1 h2 => exact ⟨_, _, rfl, h1, h2⟩
theorem cat_nil_of {xs : List V} {ds : List D} {G : Hp} (r : RpL Z G xs ds) : (xs = [] ↔ ds = []) := by
  cases r with
  | nil => exact Iff.intro (fun _ => rfl) (fun _ => rfl)
  | cons _ _ => exact Iff.intro (fun z => by cases z) (fun z => by cases z)
theorem ops_cat {G H Ha Hb : Hp} {σ : St} {ρ : En} {w : Dw} {a b c : RV} {x y : V} {Q : VK} (S : Stt Z G0 E0 G H σ ρ w) (ra : RR Z Ha G H σ ρ x a) (rb : RR Z Hb G H σ ρ y b)
    (e : (match a.seq, b.seq with
      | some (true, xs), some (true, ys) => if xs.length + ys.length ≤ sizeLine then some (.v (.tup (xs ++ ys))) else none
      | some (false, xs), some (false, ys) => if xs.length + ys.length ≤ sizeLine then some (.n (xs ++ ys)) else none
      | _, _ => none) = some c) (k : KE Z G0 E0 G H σ ρ Q c w) : rAddA Z.K x y H Q := by
  split at e
  · rename_i xs ys e1 e2
    split at e
    · rename_i hz
      cases e
      obtain ⟨p, vs, rfl, h1, h2, rfl, g1⟩ := ra.seqT S.gl e1
      obtain ⟨q, us, rfl, h3, h4, rfl, g2⟩ := rb.seqT S.gl e2
      refine .inl (.inr ⟨p, q, vs, us, rfl, rfl, h1, h3, by rw [h2.length, h4.length]; exact hz, fun z => ?_, fun z1 z2 => ?_, fun _ _ o ho => k.newT S (h2.append h4) ho⟩)
      · have : xs = [] := (cat_nil_of h2).mp z
        subst this
        exact k.here S (.tup g2 h4)
      · have : ys = [] := (cat_nil_of h4).mp z2
        subst this
        exact k.here S (by rw [List.append_nil]; exact .tup g1 h2)
    · cases e
  · rename_i xs ys e1 e2
    split at e
    · rename_i hz
      cases e
      obtain ⟨p, vs, rfl, h1, h2⟩ := ra.seqL S.gl e1
      obtain ⟨q, us, rfl, h3, h4⟩ := rb.seqL S.gl e2
      exact .inr ⟨p, q, vs, us, rfl, rfl, h1, h3, by rw [h2.length, h4.length]; exact hz, fun o ho => k.newL S (h2.append h4) ho⟩
    · cases e
  · cases e
theorem ops_add : OpS Z G0 E0 (opB .add) (rAddA Z.K) := by
  intro G H Ha Hb σ ρ w a b c x y Q S ra rb e k
  simp only [opB] at e
  split at e
  · cases e
    cases ra
    cases rb
    exact .inl (.inl (.inl ⟨_, _, rfl, rfl, k.here S (.int _)⟩))
  · split at e
    · rename_i hz
      cases e
      cases ra
      cases rb
      exact .inl (.inl (.inr ⟨_, _, rfl, rfl, hz, k.here S (.str _)⟩))
    · cases e
  · exact ops_cat S ra rb e k
theorem ops_sub : OpS Z G0 E0 (opB .sub) (rI0 fun i j => .int (i - j)) := by
  intro G H Ha Hb σ ρ w a b c x y Q S ra rb e k
  simp only [opB] at e
  split at e
  · cases e
    cases ra
    cases rb
    exact ⟨_, _, rfl, rfl, k.here S (.int _)⟩
  · cases e
def rMulA (K : PySem.W.Frag) : R2 := fun x y H Q => (((rI CMul fun i j => .int (i * j)) x y H Q ∨ rRepT K x y H Q) ∨ rRep0 K x y H Q) ∨ rRep x y H Q
theorem op_mulA {X : Cx} : OpR X (binaryOp .Mult) (rMulA X.K) := ((op_mul.or op_repT).or op_rep0).or op_rep
theorem small_of {i : Int} (h : small64 i = true) : -(2 ^ 64) < i ∧ i < 2 ^ 64 := by
  unfold small64 at h
  rw [Bool.and_eq_true] at h
  exact ⟨of_decide_eq_true h.1, of_decide_eq_true h.2⟩
theorem ops_mul : OpS Z G0 E0 (opB .mul) (rMulA Z.K) := by
  intro G H Ha Hb σ ρ w a b c x y Q S ra rb e k
  simp only [opB] at e
  split at e
  · rename_i j
    cases rb
    split at e
    · split at e
      · rename_i hs
        cases e
        cases ra
        refine .inl (.inl (.inl ⟨_, _, rfl, rfl, ?_, k.here S (.int _)⟩))
        rw [Bool.or_eq_true] at hs
        rcases hs with hs | hs
        · exact .inl (small_of hs)
        · exact .inr (small_of hs)
      · cases e
    · split at e
      · rename_i xs e1
        split at e
        · rename_i hc
          cases e
          simp only [Bool.and_eq_true, decide_eq_true_eq] at hc
          obtain ⟨p, vs, rfl, h1, h2, rfl, g1⟩ := ra.seqT S.gl e1
          by_cases hz : vs = [] ∨ j ≤ 1
          · refine .inl (.inr ⟨p, j, vs, rfl, rfl, h1, hc.1.1, by omega, hz, fun q => k.here S ?_, fun nq o ho => ?_⟩)
            · rcases q with q | q
              · subst q
                cases h2
                rw [show (List.replicate j.toNat ([] : List D)).flatten = [] from by simp]
                exact .tup g1 .nil
              · subst q
                rw [show (List.replicate (1 : Int).toNat xs).flatten = xs from by simp]
                exact .tup g1 h2
            · have j0 : j.toNat = 0 := by
                have j1 : j ≠ 1 := fun e => nq (.inr e)
                rcases hz with e | e
                · exact absurd (.inl e) nq
                · omega
              rw [j0] at k
              exact k.newT S .nil ho
          · exact .inl (.inl (.inr ⟨p, _, vs, rfl, rfl, h1, fun z => hz (.inl z), by have : ¬ j ≤ 1 := fun z => hz (.inr z); omega, hc.1.2, by rw [h2.length]; exact hc.2, fun o ho => k.newT S (h2.rep _) ho⟩))
        · cases e
      · rename_i e1
        split at e
        · rename_i hc
          cases e
          simp only [Bool.and_eq_true, decide_eq_true_eq] at hc
          obtain ⟨p, vs, rfl, h1, h2⟩ := ra.seqL S.gl e1
          exact .inr ⟨p, _, vs, rfl, rfl, h1, hc.1.1, hc.1.2, by rw [h2.length]; exact hc.2, fun o ho => k.newL S (h2.rep _) ho⟩
        · cases e
      · cases e
  · cases e
theorem ops_fdiv : OpS Z G0 E0 (opB .fdiv) (rI CDivN fun i j => .int (i.fdiv j)) := by
  intro G H Ha Hb σ ρ w a b c x y Q S ra rb e k
  simp only [opB] at e
  split at e
  · split at e
    · rename_i hc
      cases e
      cases ra
      cases rb
      simp only [Bool.and_eq_true, decide_eq_true_eq] at hc
      exact ⟨_, _, rfl, rfl, hc, k.here S (.int _)⟩
    · cases e
  · cases e
theorem ops_mod : OpS Z G0 E0 (opB .mod) (rI (fun _ j => j ≠ 0) fun i j => .int (i.fmod j)) := by
  intro G H Ha Hb σ ρ w a b c x y Q S ra rb e k
  simp only [opB] at e
  split at e
  · split at e
    · rename_i hc
      cases e
      cases ra
      cases rb
      exact ⟨_, _, rfl, rfl, hc, k.here S (.int _)⟩
    · cases e
  · cases e
theorem ops_pow : OpS Z G0 E0 (opB .pow) (rI CPow fun i j => .int (i ^ j.toNat)) := by
  intro G H Ha Hb σ ρ w a b c x y Q S ra rb e k
  simp only [opB] at e
  split at e
  · split at e
    · rename_i hc
      cases e
      cases ra
      cases rb
      simp only [Bool.and_eq_true, decide_eq_true_eq] at hc
      exact ⟨_, _, rfl, rfl, ⟨hc.1.1, hc.1.2, hc.2⟩, k.here S (.int _)⟩
    · cases e
  · cases e
/-- the code's operator, the program's -/
def bopA : BOp → Operator
  | .add => .Add | .sub => .Sub | .mul => .Mult | .fdiv => .FloorDiv | .mod => .Mod | .pow => .Pow
theorem pe_bop {X : Cx} {Wx : Value → Option Addr → Hp → Prop} {o : BOp} {a b : Expr} {pos : Pos} {f g : En → Dw → Res RV} (hK : X.K = Z.K) (ha : PE X a (SE Z Wx G0 E0 f)) (hb : PE X b (SE Z Wx G0 E0 g)) :
    PE X (.BinOp a (bopA o) b pos) (SE Z Wx G0 E0 fun ρ w => (f ρ w).bind fun u w => (g ρ w).bind fun v w => .opt (opB o u v) w) := by
  cases o with
  | add => exact PE.imp (pe_op op_addA ha hb) fun σ H Q h => se_bin (by rw [hK]; exact ops_add) h
  | sub => exact PE.imp (pe_op op_sub ha hb) fun σ H Q h => se_bin ops_sub h
  | mul => exact PE.imp (pe_op op_mulA ha hb) fun σ H Q h => se_bin (by rw [hK]; exact ops_mul) h
  | fdiv => exact PE.imp (pe_op op_fdivN ha hb) fun σ H Q h => se_bin ops_fdiv h
  | mod => exact PE.imp (pe_op op_modN ha hb) fun σ H Q h => se_bin ops_mod h
  | pow => exact PE.imp (pe_op op_pow ha hb) fun σ H Q h => se_bin ops_pow h

/-! ### comparisons -/
def opCV (o : COp) (a b : RV) : Option RV := (opC o a b).map fun k => .v (.bl k)
theorem opCV_some {o : COp} {a b c : RV} (h : opCV o a b = some c) : ∃ k, opC o a b = some k ∧ c = .v (.bl k) := by
  unfold opCV at h
  cases q : opC o a b with
  | none => rw [q] at h; cases h
  | some k => rw [q] at h; cases h; exact ⟨k, rfl, rfl⟩
def copA : COp → CmpOp
  | .lt => .Lt | .le => .LtE | .gt => .Gt | .ge => .GtE | .eq => .Eq | .ne => .NotEq | .is => .Is | .isn => .IsNot | .inn => .In | .nin => .NotIn
theorem eqD_some {a b : D} {k : Bool} (h : eqD a b = some k) : ∃ p q, a.py = some p ∧ b.py = some q ∧ SeqAt.shaped p = true ∧ SeqAt.shaped q = true ∧ k = PyData.eqv p q := by
  unfold eqD at h
  split at h
  · rename_i p q e1 e2
    split at h
    · rename_i hs
      rw [Bool.and_eq_true] at hs
      exact ⟨p, q, e1, e2, hs.1, hs.2, (Option.some.inj h).symm⟩
    · cases h
  · cases h
theorem inD_some {a : D} {l : List D} {k : Bool} (h : inD a l = some k) : ∃ p q, a.py = some p ∧ D.pys l = some q ∧ SeqAt.shaped p = true ∧ SeqAt.shaped (.list q) = true ∧ k = q.any fun z => PyData.eqv z p := by
  unfold inD at h
  split at h
  · rename_i p q e1 e2
    split at h
    · rename_i hs
      rw [Bool.and_eq_true] at hs
      exact ⟨p, q, e1, e2, hs.1, hs.2, (Option.some.inj h).symm⟩
    · cases h
  · cases h
def rIsA : R2 := fun x y H Q => (y = .non ∧ Q (.bl (decide (x = .non))) H) ∨ rIsB x y H Q
def rIsnA : R2 := fun x y H Q => (y = .non ∧ Q (.bl (!decide (x = .non))) H) ∨ rNotB x y H Q
end
end VM
set_option Elab.async false
set_option linter.all false
set_option maxRecDepth 100000
/-! VmE: comparisons, tests. -/
namespace VM
open PySem PySem.Spec L2
section
variable {X : Cx}
def rInT (K : PySem.W.Frag) : R2 := fun x y H Q => ∃ d ds, Dp K H x d ∧ Dp K H y (.tuple ds) ∧ SeqAt.shaped d = true ∧ SeqAt.shaped (.list ds) = true ∧ Q (.bl (ds.any fun z => PyData.eqv z d)) H
def rNotInT (K : PySem.W.Frag) : R2 := fun x y H Q => ∃ d ds, Dp K H x d ∧ Dp K H y (.tuple ds) ∧ SeqAt.shaped d = true ∧ SeqAt.shaped (.list ds) = true ∧ Q (.bl (!ds.any fun z => PyData.eqv z d)) H
theorem op_inT (hu : X.A.units + 65 < cLine) : OpR X (compareOp .In) (rInT X.K) := by
  intro pins s σ H x y v u Q I rx ry h
  obtain ⟨d, ds, hd, he, sd, se, q⟩ := h
  obtain ⟨as, r1⟩ := Dp.reads I d x v hd rx
  obtain ⟨bs, r2⟩ := Dp.reads I (.tuple ds) y u he ry
  exact SeqAt.in_tuple_reads r2 r1 (SeqAt.canLay_of_shaped se) (SeqAt.canLay_of_shaped sd) (PyProof.Rows.room_in_shaped sd hu) ⟨.bl _, H, I, rfl, q⟩
theorem op_notInT (hu : X.A.units + 65 < cLine) : OpR X (compareOp .NotIn) (rNotInT X.K) := by
  intro pins s σ H x y v u Q I rx ry h
  obtain ⟨d, ds, hd, he, sd, se, q⟩ := h
  obtain ⟨as, r1⟩ := Dp.reads I d x v hd rx
  obtain ⟨bs, r2⟩ := Dp.reads I (.tuple ds) y u he ry
  exact SeqAt.notIn_tuple_reads r2 r1 (SeqAt.canLay_of_shaped se) (SeqAt.canLay_of_shaped sd) (PyProof.Rows.room_in_shaped sd hu) ⟨.bl _, H, I, rfl, q⟩
def rEqS : R2 := fun x y H Q => ∃ i j : Str, x = .str i ∧ y = .str j ∧ Q (.bl (i.cps.toList == j.cps.toList)) H
def rNeS : R2 := fun x y H Q => ∃ i j : Str, x = .str i ∧ y = .str j ∧ Q (.bl (!(i.cps.toList == j.cps.toList))) H
theorem op_eqS : OpR X (compareOp .Eq) rEqS := by
  intro pins s σ H x y v u Q I rx ry h
  obtain ⟨i, j, rfl, rfl, q⟩ := h
  obtain ⟨t, rfl⟩ := rx
  obtain ⟨t', rfl⟩ := ry
  exact PySem.P.eq_str ⟨.bl _, H, I, rfl, q⟩
theorem op_neS : OpR X (compareOp .NotEq) rNeS := by
  intro pins s σ H x y v u Q I rx ry h
  obtain ⟨i, j, rfl, rfl, q⟩ := h
  obtain ⟨t, rfl⟩ := rx
  obtain ⟨t', rfl⟩ := ry
  exact PySem.P.ne_str ⟨.bl _, H, I, rfl, q⟩
/-- every comparison's reading -/
def rC (K : PySem.W.Frag) : COp → R2
  | .lt => fun x y H Q => rI0 (fun i j => .bl (decide (i < j))) x y H Q ∨ rLtT K x y H Q
  | .le => rI0 fun i j => .bl (decide (i ≤ j))
  | .gt => rI0 fun i j => .bl (decide (j < i))
  | .ge => rI0 fun i j => .bl (decide (j ≤ i))
  | .eq => fun x y H Q => rEqD K x y H Q ∨ rEqS x y H Q
  | .ne => fun x y H Q => rNeD K x y H Q ∨ rNeS x y H Q
  | .is => fun x y H Q => (y = .non ∧ Q (.bl (decide (x = .non))) H) ∨ rIsB x y H Q
  | .isn => fun x y H Q => (y = .non ∧ Q (.bl (!decide (x = .non))) H) ∨ rNotB x y H Q
  | .inn => fun x y H Q => rInD K x y H Q ∨ rInT K x y H Q
  | .nin => fun x y H Q => rNotInD K x y H Q ∨ rNotInT K x y H Q
theorem op_C (hu : X.A.units + 65 < cLine) (o : COp) : OpR X (compareOp (copA o)) (rC X.K o) := by
  cases o with
  | lt => exact op_lt.or (op_ltT (by omega))
  | le => exact op_le
  | gt => exact op_gt
  | ge => exact op_ge
  | eq => exact (op_eqD (Nat.lt_of_succ_lt hu)).or op_eqS
  | ne => exact (op_neD (Nat.lt_of_succ_lt hu)).or op_neS
  | is => exact op_isN.or op_isBl
  | isn => exact op_notN.or op_notBl
  | inn => exact (op_inD hu).or (op_inT hu)
  | nin => exact (op_notInD hu).or (op_notInT hu)
end
section
variable {Z : Zed} {G0 E0 : Hp}
theorem rp_non {G : Hp} {v : V} {d : D} (h : Rp Z G v d) : decide (v = .non) = d.isNon := by
  cases h <;> rfl
theorem rr_seq_dp {H0 G H : Hp} {σ : St} {ρ : En} {w : Dw} {v : V} {r : RV} {ds : List D} {k : Bool} {q : List PyData} (g : Gg Z G H w) (h : RR Z H0 G H σ ρ v r) (e : r.seq = some (k, ds)) (hq : D.pys ds = some q) :
    if k = true then Dp Z.K H v (.tuple q) else Dp Z.K H v (.list q) := by
  cases k with
  | true =>
    obtain ⟨a, xs, rfl, h1, h2, _⟩ := h.seqT g e
    rw [if_pos rfl]
    exact .tup h1 (g.dps (RpL.dp h2 hq))
  | false =>
    obtain ⟨a, xs, rfl, h1, h2⟩ := h.seqL g e
    rw [if_neg Bool.false_ne_true]
    exact .lst (SqL.of h1) (g.dps (RpL.dp h2 hq))
theorem ops_eq {G H Ha Hb : Hp} {σ : St} {ρ : En} {w : Dw} {a b : RV} {x y : V} {t : Bool} (S : Stt Z G0 E0 G H σ ρ w) (ra : RR Z Ha G H σ ρ x a) (rb : RR Z Hb G H σ ρ y b) (e : eqR a b = some t) :
    (∃ p q, Dp Z.K H x p ∧ Dp Z.K H y q ∧ SeqAt.shaped p = true ∧ SeqAt.shaped q = true ∧ PyData.eqv p q = t) ∨ ∃ i j : Str, x = .str i ∧ y = .str j ∧ (i.cps.toList == j.cps.toList) = t := by
  unfold eqR at e
  split at e
  · cases e
    cases ra
    cases rb
    exact .inr ⟨_, _, rfl, rfl, rfl⟩
  · obtain ⟨p, q, e1, e2, s1, s2, rfl⟩ := eqD_some e
    exact .inl ⟨p, q, ra.look S.gl e1, rb.look S.gl e2, s1, s2, rfl⟩
theorem ops_C (o : COp) : OpS Z G0 E0 (opCV o) (rC Z.K o) := by
  intro G H Ha Hb σ ρ w a b c x y Q S ra rb e0 k
  obtain ⟨t, e, rfl⟩ := opCV_some e0
  clear e0
  have fin : Q (.bl t) H := k.here S (.bl t)
  cases o with
  | lt =>
    simp only [opC] at e
    split at e
    · cases e; cases ra; cases rb; exact .inl ⟨_, _, rfl, rfl, fin⟩
    · rename_i xs ys
      split at e
      · rename_i ns ms e1 e2
        cases e
        obtain ⟨p, us, rfl, h1, h2, _⟩ := ra.seqT S.gl (ds := xs) rfl
        obtain ⟨q, vs, rfl, h3, h4, _⟩ := rb.seqT S.gl (ds := ys) rfl
        obtain ⟨rfl, _⟩ := RpL.ofInts h2 e1
        obtain ⟨rfl, _⟩ := RpL.ofInts h4 e2
        exact .inr ⟨p, q, ns, ms, rfl, rfl, h1, h3, fin⟩
      · cases e
    · cases e
  | le =>
    simp only [opC] at e
    split at e
    · cases e; cases ra; cases rb; exact ⟨_, _, rfl, rfl, fin⟩
    · cases e
  | gt =>
    simp only [opC] at e
    split at e
    · cases e; cases ra; cases rb; exact ⟨_, _, rfl, rfl, fin⟩
    · cases e
  | ge =>
    simp only [opC] at e
    split at e
    · cases e; cases ra; cases rb; exact ⟨_, _, rfl, rfl, fin⟩
    · cases e
  | eq => exact (ops_eq S ra rb (show eqR a b = some t from e)).imp (fun ⟨p, q, h1, h2, h3, h4, h5⟩ => ⟨p, q, h1, h2, h3, h4, by rw [h5]; exact fin⟩) fun ⟨i, j, h1, h2, h3⟩ => ⟨i, j, h1, h2, by rw [h3]; exact fin⟩
  | ne =>
    have e : (eqR a b).map (!·) = some t := e
    cases q0 : eqR a b with
    | none => rw [q0] at e; cases e
    | some u =>
      rw [q0] at e
      have e' : (!u) = t := Option.some.inj e
      exact (ops_eq S ra rb q0).imp (fun ⟨p, q, h1, h2, h3, h4, h5⟩ => ⟨p, q, h1, h2, h3, h4, by rw [h5, e']; exact fin⟩) fun ⟨i, j, h1, h2, h3⟩ => ⟨i, j, h1, h2, by rw [h3, e']; exact fin⟩
  | is =>
    simp only [opC] at e
    split at e
    · split at e
      · cases e
        cases rb
        refine .inl ⟨rfl, ?_⟩
        rw [rp_non (show Rp Z G x _ from ra)]
        exact fin
      · cases e
    · split at e
      · cases e; cases ra; cases rb; exact .inr ⟨_, _, rfl, rfl, fin⟩
      · cases e
    · cases e
  | isn =>
    simp only [opC] at e
    split at e
    · split at e
      · rename_i d
        cases e
        cases rb
        refine .inl ⟨rfl, ?_⟩
        rw [rp_non (show Rp Z G x d from ra)]
        exact fin
      · cases e
    · split at e
      · cases e; cases ra; cases rb; exact .inr ⟨_, _, rfl, rfl, fin⟩
      · cases e
    · cases e
  | inn =>
    simp only [opC] at e
    split at e
    · rename_i kk ds e0
      obtain ⟨p, q, e1, e2, s1, s2, rfl⟩ := inD_some e
      have := rr_seq_dp S.gl rb e0 e2
      split at this
      · exact .inr ⟨p, q, ra.look S.gl e1, this, s1, s2, fin⟩
      · exact .inl ⟨p, q, ra.look S.gl e1, this, s1, s2, fin⟩
    · cases e
  | nin =>
    simp only [opC] at e
    split at e
    · rename_i kk ds e0
      cases q0 : inD a.look ds with
      | none => rw [q0] at e; cases e
      | some u =>
        rw [q0] at e
        have e' : (!u) = t := Option.some.inj e
        obtain ⟨p, q, e1, e2, s1, s2, rfl⟩ := inD_some q0
        have := rr_seq_dp S.gl rb e0 e2
        split at this
        · exact .inr ⟨p, q, ra.look S.gl e1, this, s1, s2, by rw [e']; exact fin⟩
        · exact .inl ⟨p, q, ra.look S.gl e1, this, s1, s2, by rw [e']; exact fin⟩
    · cases e
variable {X : Cx} {Wx : Value → Option Addr → Hp → Prop} {a b c : Expr} {pos : Pos} {f g h : En → Dw → Res RV}
theorem opt_map_cv {o : COp} {u v : RV} {w : Dw} : (Res.opt ((opC o u v).map fun b => RV.v (.bl b)) w) = .opt (opCV o u v) w := rfl
theorem se_truth {f : En → Dw → Res RV} {σ : St} {H : Hp} {Q : Bool → Hp → Prop} (hb : ∀ ρ w r w', f ρ w = .ok r w' → ∃ b, r = .v (.bl b)) (h : ST Z Wx G0 E0 f σ H Q) : SE Z Wx G0 E0 f σ H fun x H1 => ∃ k, x = .bl k ∧ Q k H1 := by
  obtain ⟨G, ρ, w, S, h⟩ := h
  refine ⟨G, ρ, w, S, ?_⟩
  cases q : f ρ w with
  | ok r w' =>
    rw [q] at h
    obtain ⟨b, hb1, h⟩ := h
    obtain ⟨b', rfl⟩ := hb ρ w r w' q
    cases hb1
    intro v G' H' x S' rr
    cases rr
    exact ⟨_, rfl, h G' H' x S'⟩
  | exc e w' => rw [q] at h; exact h
  | bad => rw [q] at h; exact h
theorem cmp_bl {o : COp} {ρ : En} {w : Dw} {r : RV} {w' : Dw} (e : ((f ρ w).bind fun u w => (g ρ w).bind fun v w => .opt ((opC o u v).map fun b => RV.v (.bl b)) w) = .ok r w') : ∃ b, r = .v (.bl b) := by
  cases h1 : f ρ w with
  | ok u w1 =>
    rw [h1, Res.bind_ok] at e
    cases h2 : g ρ w1 with
    | ok v w2 =>
      rw [h2, Res.bind_ok] at e
      cases h3 : opC o u v with
      | none => rw [h3] at e; cases e
      | some b => rw [h3] at e; cases e; exact ⟨b, rfl⟩
    | exc er w2 => rw [h2] at e; cases e
    | bad => rw [h2] at e; cases e
  | exc er w1 => rw [h1] at e; cases e
  | bad => rw [h1] at e; cases e
theorem pe_cop {o : COp} (hK : X.K = Z.K) (hu : X.A.units + 65 < cLine) (ha : PE X a (SE Z Wx G0 E0 f)) (hb : PE X b (SE Z Wx G0 E0 g)) (hm : behindInMarks (copA o) b = false) :
    PE X (.Compare a [copA o] [b] pos) (SE Z Wx G0 E0 fun ρ w => (f ρ w).bind fun u w => (g ρ w).bind fun v w => .opt ((opC o u v).map fun b => .v (.bl b)) w) :=
  PE.imp (pe_cmpR (op_C hu o) ha hb hm) fun σ H Q h => se_bin (by rw [hK]; exact ops_C o) h
theorem pt_cop {o : COp} (hK : X.K = Z.K) (hu : X.A.units + 65 < cLine) (ha : PE X a (SE Z Wx G0 E0 f)) (hb : PE X b (SE Z Wx G0 E0 g)) (hm : behindInMarks (copA o) b = false) :
    PT X (.Compare a [copA o] [b] pos) (ST Z Wx G0 E0 fun ρ w => (f ρ w).bind fun u w => (g ρ w).bind fun v w => .opt ((opC o u v).map fun b => .v (.bl b)) w) :=
  PT.imp (pt_cmpR (op_C hu o) ha hb hm) fun σ H Q h => se_bin (by rw [hK]; exact ops_C o) (se_truth (fun ρ w r w' e => cmp_bl e) h)
end
end VM
set_option Elab.async false
set_option linter.all false
set_option maxRecDepth 100000
/-! VmF: names, constants, truth, and | or | not, argument lists, displays. -/
namespace VM
open PySem PySem.Spec L2
section
variable {Z : Zed} {Wx : Value → Option Addr → Hp → Prop} {G0 E0 : Hp}
theorem RR.tru {H0 G H : Hp} {σ : St} {ρ : En} {w : Dw} {v : V} {r : RV} {b : Bool} (g : Gg Z G H w) (h : RR Z H0 G H σ ρ v r) (e : r.truthy = some b) : TruV Z.K v H b := by
  have sq : ∀ {k ds}, r.seq = some (k, ds) → TruV Z.K v H (!ds.isEmpty) := fun {k ds} q => by
    obtain ⟨a, xs, rfl, h1, h2⟩ := h.seqA g q
    have ee : (!ds.isEmpty) = !xs.isEmpty := by cases h2 <;> rfl
    rw [ee]
    rcases h1 with h1 | h1
    · exact .inl ⟨xs, h1, rfl⟩
    · exact .inr (.inl ⟨xs, h1, rfl⟩)
  cases r with
  | v d =>
    cases d with
    | non => cases e; cases h; rfl
    | bl k => cases e; cases h; rfl
    | int i => cases e; cases h; rfl
    | str x =>
      simp only [RV.truthy] at e
      split at e
      · cases e; cases h; exact ⟨by assumption, rfl⟩
      · cases e
    | tup ds => cases e; exact sq rfl
    | lst ds => cases e; exact sq rfl
    | _ => cases e
  | n ds => cases e; exact sq rfl
  | m i ds => cases e; exact sq rfl
variable {X : Cx} {a b c : Expr} {pos : Pos} {f g h : En → Dw → Res RV}
theorem pt_of (hK : X.K = Z.K) (ha : PE X a (SE Z Wx G0 E0 f)) (he : ∀ whole, isTrue a X.env whole = (do let v ← whole; standAt a.pos; holding [v] (truthy v))) : PT X a (ST Z Wx G0 E0 f) :=
  PT.imp (pt_truth ha he) fun σ H Q ⟨G, ρ, w, S, k⟩ => ⟨G, ρ, w, S, k.mono fun r w' ⟨b, e, q⟩ v G' H' x S' rr => ⟨b, by rw [hK]; exact rr.tru S'.gl e, q G' H' x S'⟩⟩
/-- a constant value, whatever the heap -/
theorem pe_val {e : Expr} {v : V} {d : D} (he : PE X e (tC v)) (hd : ∀ G, Rp Z G v d) : PE X e (SE Z Wx G0 E0 fun _ w => .ok (.v d) w) :=
  PE.imp he fun σ H Q ⟨G, ρ, w, S, k⟩ => KE.here S (show KE Z G0 E0 G H σ ρ Q (.v d) w from k) (hd G)
theorem pe_x {i : Nat} {x : Str} {pos : Pos} (hN : X.N[i]? = some x) (hv : Vis X.env.scope x) (hd : (x == ("__debug__" : Str)) = false) (hcd : (x == ("__classdict__" : Str)) = false) :
    PE X (.Name x pos) (SE Z Wx G0 E0 fun ρ w => .opt (Sl.rv i ρ[i]?) w) :=
  PE.imp (pe_var hN hv hd hcd) fun σ H Q ⟨G, ρ, w, S, k⟩ => by
    obtain ⟨r, e, k⟩ := out_opt.mp k
    cases q : ρ[i]? with
    | none => rw [q] at e; cases e
    | some s =>
      rw [q] at e
      cases s with
      | no => cases e
      | v d =>
        cases e
        obtain ⟨v, h1, h2⟩ := S.val i d q
        exact ⟨v, h1, k.here S h2⟩
      | own ds =>
        cases e
        obtain ⟨a, xs, h1, h2, h3, h4, h5⟩ := S.own i ds q
        exact ⟨_, h1, k.here S ⟨a, xs, rfl, h1, q, h2, h5⟩⟩
theorem pe_ng {a : Expr} (ha : PE X a (SE Z Wx G0 E0 f)) : PE X (.UnaryOp .USub a pos) (SE Z Wx G0 E0 fun ρ w => (f ρ w).bind fun u w => .opt (u.int.map fun i => .v (.int (-i))) w) :=
  PE.imp (pe_un un_neg ha) fun σ H Q h => se_un (o := fun u => u.int.map fun i => .v (.int (-i))) (fun {G H Ha σ ρ w a c x Q} S ra e k => by
    cases a with
    | v d =>
      cases d with
      | int i => cases e; cases ra; exact ⟨i, rfl, k.here S (.int _)⟩
      | _ => cases e
    | _ => cases e) h
theorem pe_nt (hK : X.K = Z.K) (ha : PE X a (SE Z Wx G0 E0 f)) : PE X (.UnaryOp .Not a pos) (SE Z Wx G0 E0 fun ρ w => (f ρ w).bind fun u w => .opt (u.truthy.map fun b => .v (.bl (!b))) w) :=
  PE.imp (pe_notT ha) fun σ H Q ⟨G, ρ, w, S, k⟩ => ⟨G, ρ, w, S, (out_bind.mp k).mono fun u w1 h1 v1 G1 H1 x1 S1 r1 => by
    obtain ⟨c, e, k1⟩ := out_opt.mp h1
    cases q : u.truthy with
    | none => rw [q] at e; cases e
    | some b =>
      rw [q] at e
      cases e
      exact ⟨b, by rw [hK]; exact r1.tru S1.gl q, (KE.trans x1 k1).here S1 (.bl _)⟩⟩
theorem pt_nt (ha : PT X a (ST Z Wx G0 E0 f)) : PT X (.UnaryOp .Not a pos) (ST Z Wx G0 E0 fun ρ w => (f ρ w).bind fun u w => .opt (u.truthy.map fun b => .v (.bl (!b))) w) :=
  PT.imp (pt_not ha) fun σ H Q ⟨G, ρ, w, S, k⟩ => ⟨G, ρ, w, S, (out_bind.mp k).mono fun u w1 h1 => by
    obtain ⟨c, e, b', e', k1⟩ := out_opt.mp h1
    cases q : u.truthy with
    | none => rw [q] at e; cases e
    | some b =>
      rw [q] at e
      cases e
      cases e'
      exact ⟨b, rfl, k1⟩⟩
/-- what a test says, whatever is done next -/
theorem pe_if (hc : PT X c (ST Z Wx G0 E0 h)) (ha : PE X a (SE Z Wx G0 E0 f)) (hb : PE X b (SE Z Wx G0 E0 g)) : PE X (.IfExp c a b pos) (SE Z Wx G0 E0 fun ρ w => (h ρ w).bind fun u w => match u.truthy with
    | none => .bad
    | some true => f ρ w
    | some false => g ρ w) :=
  PE.imp (pe_ifExp hc ha hb) fun σ H Q ⟨G, ρ, w, S, k⟩ => ⟨G, ρ, w, S, (out_bind.mp k).mono fun u w1 h1 => by
    cases q : u.truthy with
    | none => rw [q] at h1; exact h1.elim
    | some t =>
      rw [q] at h1
      cases t with
      | true => exact ⟨true, rfl, fun G1 H1 x1 S1 => iteT ⟨G1, ρ, w1, S1, h1.mono fun r w2 k2 => KE.trans x1 k2⟩⟩
      | false => exact ⟨false, rfl, fun G1 H1 x1 S1 => iteF ⟨G1, ρ, w1, S1, h1.mono fun r w2 k2 => KE.trans x1 k2⟩⟩⟩
theorem isT_if {M : Model} {A : Around} {E : Value → Shared → Prop} {s : Shared} {env : Env} {test body orelse : Expr} {pos : Pos} {whole : Sem Value} {Q : Bool → Shared → Prop}
    (h : wpAny M A (isTrue test env (eval test env)) (fun c s₂ => if c then wpAny M A (isTrue body env (eval body env)) Q E s₂ else wpAny M A (isTrue orelse env (eval orelse env)) Q E s₂) E s) :
    wpAny M A (isTrue (.IfExp test body orelse pos) env whole) Q E s := PyProof.Rows.isTrue_IfExp h
theorem pt_if (hc : PT X c (ST Z Wx G0 E0 h)) (ha : PT X a (ST Z Wx G0 E0 f)) (hb : PT X b (ST Z Wx G0 E0 g)) : PT X (.IfExp c a b pos) (ST Z Wx G0 E0 fun ρ w => (h ρ w).bind fun u w => match u.truthy with
    | none => .bad
    | some true => f ρ w
    | some false => g ρ w) := by
  refine ⟨fun pins s σ H Q I q => ?_⟩
  obtain ⟨G, ρ, w, S, k⟩ := q
  refine isT_if (thn (hc.run pins s σ H (fun t H1 => if t = true then ST Z Wx G0 E0 f σ H1 Q else ST Z Wx G0 E0 g σ H1 Q) I ⟨G, ρ, w, S, (out_bind.mp k).mono fun u w1 h1 => ?_⟩) fun t s1 ⟨H1, I1, q1⟩ => ?_)
  · cases q : u.truthy with
    | none => rw [q] at h1; exact h1.elim
    | some t =>
      rw [q] at h1
      cases t with
      | true => exact ⟨true, rfl, fun G1 H1 x1 S1 => iteT ⟨G1, ρ, w1, S1, h1.mono fun r w2 ⟨b, e, k2⟩ => ⟨b, e, fun G2 H2 x2 S2 => k2 G2 H2 (x1.trans x2) S2⟩⟩⟩
      | false => exact ⟨false, rfl, fun G1 H1 x1 S1 => iteF ⟨G1, ρ, w1, S1, h1.mono fun r w2 ⟨b, e, k2⟩ => ⟨b, e, fun G2 H2 x2 S2 => k2 G2 H2 (x1.trans x2) S2⟩⟩⟩
  · cases t with
    | true => exact ha.run pins s1 σ H1 Q I1 q1
    | false => exact hb.run pins s1 σ H1 Q I1 q1

/-! ### and, or -/
def booA (k : Bool) : BoolOp := if k then .And else .Or
/-- the next one of a row -/
def booK (k : Bool) (f g : En → Dw → Res RV) : En → Dw → Res RV := fun ρ w => (f ρ w).bind fun u w => match u.truthy with
  | none => .bad
  | some b => if b == k then g ρ w else .ok u w
theorem pe_boo1 {k : Bool} (ha : PE X a (SE Z Wx G0 E0 f)) : PE X (.BoolOp (booA k) [a] pos) (SE Z Wx G0 E0 f) := pe_one ha
theorem pw_boo1 {k : Bool} (ha : PT X a (ST Z Wx G0 E0 f)) : PW X (.BoolOp (booA k) [a] pos) (ST Z Wx G0 E0 f) := by
  cases k with
  | true => exact pw_and1 ha
  | false => exact pw_or1 ha
theorem pe_booS {k : Bool} {rest : List Expr} (hK : X.K = Z.K) (ha : PE X a (SE Z Wx G0 E0 f)) (hb : PE X (.BoolOp (booA k) (b :: rest) pos) (SE Z Wx G0 E0 g)) : PE X (.BoolOp (booA k) (a :: b :: rest) pos) (SE Z Wx G0 E0 (booK k f g)) := by
  have key : ∀ σ H Q, SE Z Wx G0 E0 (booK k f g) σ H Q → SE Z Wx G0 E0 f σ H fun x H1 => ∃ t, TruV Z.K x H1 t ∧ if t = k then SE Z Wx G0 E0 g σ H1 Q else Q x H1 := fun σ H Q ⟨G, ρ, w, S, kk⟩ => ⟨G, ρ, w, S, (out_bind.mp kk).mono fun u w1 h1 v1 G1 H1 x1 S1 r1 => by
    cases q : u.truthy with
    | none => rw [q] at h1; exact h1.elim
    | some t =>
      rw [q] at h1
      refine ⟨t, r1.tru S1.gl q, ?_⟩
      have h1 : Out Z Wx G0 E0 (KE Z G0 E0 G H σ ρ Q) (if (t == k) = true then g ρ w1 else .ok u w1) := h1
      by_cases z : t = k
      · rw [if_pos z]
        rw [if_pos (beq_iff_eq.mpr z)] at h1
        exact ⟨G1, ρ, w1, S1, h1.mono fun r w2 k2 => KE.trans x1 k2⟩
      · rw [if_neg z]
        rw [if_neg (fun y => z (beq_iff_eq.mp y))] at h1
        exact h1 v1 G1 H1 x1 S1 r1⟩
  cases k with
  | true =>
    refine PE.imp (pe_andT ha hb) fun σ H Q h => ?_
    obtain ⟨G, ρ, w, S, h⟩ := key σ H Q h
    exact ⟨G, ρ, w, S, h.mono fun r w1 h1 v G1 H1 x1 S1 r1 => let ⟨t, e, q⟩ := h1 v G1 H1 x1 S1 r1; ⟨t, by rw [hK]; exact e, q⟩⟩
  | false =>
    refine PE.imp (pe_orT ha hb) fun σ H Q h => ?_
    obtain ⟨G, ρ, w, S, h⟩ := key σ H Q h
    refine ⟨G, ρ, w, S, h.mono fun r w1 h1 v G1 H1 x1 S1 r1 => ?_⟩
    obtain ⟨t, e, q⟩ := h1 v G1 H1 x1 S1 r1
    refine ⟨t, by rw [hK]; exact e, ?_⟩
    cases t with
    | true => exact q
    | false => exact q
theorem pw_booS {k : Bool} {rest : List Expr} (ha : PT X a (ST Z Wx G0 E0 f)) (hb : PW X (.BoolOp (booA k) (b :: rest) pos) (ST Z Wx G0 E0 g)) : PW X (.BoolOp (booA k) (a :: b :: rest) pos) (ST Z Wx G0 E0 (booK k f g)) := by
  have key : ∀ σ H Q, ST Z Wx G0 E0 (booK k f g) σ H Q → ST Z Wx G0 E0 f σ H fun t H1 => if t = k then ST Z Wx G0 E0 g σ H1 Q else Q t H1 := fun σ H Q ⟨G, ρ, w, S, kk⟩ => ⟨G, ρ, w, S, (out_bind.mp kk).mono fun u w1 h1 => by
    cases q : u.truthy with
    | none => rw [q] at h1; exact h1.elim
    | some t =>
      rw [q] at h1
      refine ⟨t, rfl, fun G1 H1 x1 S1 => ?_⟩
      have h1 : Out Z Wx G0 E0 _ (if (t == k) = true then g ρ w1 else .ok u w1) := h1
      show if t = k then ST Z Wx G0 E0 g σ H1 Q else Q t H1
      by_cases z : t = k
      · rw [if_pos z]
        rw [if_pos (beq_iff_eq.mpr z)] at h1
        exact ⟨G1, ρ, w1, S1, h1.mono fun r w2 ⟨b, e, k2⟩ => ⟨b, e, fun G2 H2 x2 S2 => k2 G2 H2 (x1.trans x2) S2⟩⟩
      · rw [if_neg z]
        rw [if_neg (fun y => z (beq_iff_eq.mp y))] at h1
        obtain ⟨b, e, k2⟩ := h1
        rw [q] at e
        cases e
        exact k2 G1 H1 x1 S1⟩
  have tw : ∀ {t : TT} {e : Expr}, (∀ σ H Q, ST Z Wx G0 E0 (booK k f g) σ H Q → t σ H Q) → PW X e t → PW X e (ST Z Wx G0 E0 (booK k f g)) := fun i p => ⟨fun whole pins s σ H Q I q => p.run whole pins s σ H Q I (i σ H Q q)⟩
  cases k with
  | true =>
    refine tw (fun σ H Q h => ?_) (pw_and ha hb)
    obtain ⟨G, ρ, w, S, h⟩ := key σ H Q h
    refine ⟨G, ρ, w, S, h.mono fun r w1 ⟨t, e, h1⟩ => ⟨t, e, fun G1 H1 x1 S1 => ?_⟩⟩
    have q := h1 G1 H1 x1 S1
    cases t with
    | true => exact q
    | false => exact q
  | false =>
    refine tw (fun σ H Q h => ?_) (pw_or ha hb)
    obtain ⟨G, ρ, w, S, h⟩ := key σ H Q h
    refine ⟨G, ρ, w, S, h.mono fun r w1 ⟨t, e, h1⟩ => ⟨t, e, fun G1 H1 x1 S1 => ?_⟩⟩
    have q := h1 G1 H1 x1 S1
    cases t with
    | true => exact q
    | false => exact q
end
end VM
set_option Elab.async false
set_option linter.all false
set_option maxRecDepth 100000
/-! VmG: argument lists, displays, sequences. -/
namespace VM
open PySem PySem.Spec L2
inductive RRs (Z : Zed) (G H : Hp) (σ : St) (ρ : En) : Hp → List V → List RV → Prop
  | nil {H0 : Hp} : RRs Z G H σ ρ H0 [] []
  | cons {H0 H1 : Hp} {v : V} {r : RV} {vs : List V} {rs : List RV} : RR Z H0 G H σ ρ v r → (∀ b, H0 b ≠ none → H1 b ≠ none) → (∀ ds a, r = .n ds → v = .ref a → H1 a ≠ none) → RRs Z G H σ ρ H1 vs rs → RRs Z G H σ ρ H0 (v :: vs) (r :: rs)
section
variable {Z : Zed} {Wx : Value → Option Addr → Hp → Prop} {G0 E0 : Hp}
theorem RR.weak {H0 H0' G H : Hp} {σ : St} {ρ : En} {v : V} {r : RV} (h : RR Z H0 G H σ ρ v r) (d : ∀ b, H0' b ≠ none → H0 b ≠ none) : RR Z H0' G H σ ρ v r := by
  cases r with
  | v d => exact h
  | n ds =>
    obtain ⟨a, xs, e, h1, h2, h3, h4⟩ := h
    refine ⟨a, xs, e, h1, h2, ?_, h4⟩
    cases q : H0' a with
    | none => rfl
    | some o => exact absurd h3 (d a (by rw [q]; simp))
  | m i ds => exact h
theorem RRs.weak {H0 H0' G H : Hp} {σ : St} {ρ : En} {vs : List V} {rs : List RV} (h : RRs Z G H σ ρ H0 vs rs) (d : ∀ b, H0' b ≠ none → H0 b ≠ none) : RRs Z G H σ ρ H0' vs rs := by
  cases h with
  | nil => exact .nil
  | cons r d1 n t => exact .cons (r.weak d) (fun b hb => d1 b (d b hb)) n t
theorem RRs.data {H0 G H : Hp} {σ : St} {ρ : En} {ys : List V} {us : List RV} (t : RRs Z G H σ ρ H0 ys us) : ∀ {xs : List V} {ds : List D}, RpL Z G xs ds → RRs Z G H σ ρ H0 (xs ++ ys) (ds.map .v ++ us)
  | _, _, .nil => t
  | _, _, .cons r rs => .cons r (fun _ h => h) (fun _ _ e => nomatch e) (RRs.data t rs)
theorem RRs.length {H0 G H : Hp} {σ : St} {ρ : En} {vs : List V} {rs : List RV} (h : RRs Z G H σ ρ H0 vs rs) : vs.length = rs.length := by
  induction h with
  | nil => rfl
  | cons _ _ _ _ ih => rw [List.length_cons, List.length_cons, ih]
/-- more is frozen -/
theorem RRs.subG {H0 G G2 H : Hp} {σ : St} {ρ : En} {vs : List V} {rs : List RV} (h : RRs Z G H σ ρ H0 vs rs) (s : Sub G G2) (k : ∀ b, H0 b = none → G b = none → G2 b = none) : RRs Z G2 H σ ρ H0 vs rs := by
  induction h with
  | nil => exact .nil
  | @cons H0 H1 v r vs rs hr hd hn ht ih =>
    refine .cons ?_ hd hn (ih fun b hb => k b ?_)
    · cases r with
      | v d => exact Rp.sub s hr
      | n ds =>
        obtain ⟨a, xs, e, h1, h2, h3, h4⟩ := hr
        exact ⟨a, xs, e, h1, k a h3 h2, h3, RpL.sub s h4⟩
      | m i ds =>
        obtain ⟨a, xs, e, h1, h2, h3, h4⟩ := hr
        exact ⟨a, xs, e, h1, h2, h3, RpL.sub s h4⟩
    · cases q : H0 b with
      | none => rfl
      | some o => exact absurd hb (hd b (by rw [q]; simp))
theorem mapM_cons {α β : Type} {f : α → Option β} {a : α} {l : List α} {bs : List β} (h : (a :: l).mapM f = some bs) : ∃ b r, f a = some b ∧ l.mapM f = some r ∧ bs = b :: r := by
  rw [List.mapM_cons] at h
  cases q : f a with
  | none => rw [q] at h; cases h
  | some b =>
    rw [q] at h
    cases q2 : l.mapM f with
    | none => rw [q2] at h; cases h
    | some r => rw [q2] at h; cases h; exact ⟨b, r, rfl, rfl, rfl⟩
/-- data out of arguments -/
theorem RRs.datas {G H H0 H1 : Hp} {σ : St} {ρ : En} {w w1 : Dw} (S : Stt Z G0 E0 G H σ ρ w) {vs : List V} {rs : List RV} {G1 : Hp} (h : RRs Z G1 H1 σ ρ H0 vs rs) (d : ∀ b, H b ≠ none → H0 b ≠ none) : ∀ {ds : List D}, Nx G H G1 H1 → Stt Z G0 E0 G1 H1 σ ρ w1 → rs.mapM RV.toD = some ds →
    ∃ G2, Sub G1 G2 ∧ Nx G H G2 H1 ∧ Stt Z G0 E0 G2 H1 σ ρ w1 ∧ RpL Z G2 vs ds := by
  induction rs generalizing vs H0 G1 with
  | nil =>
    intro ds x S1 e
    cases h
    cases e
    exact ⟨G1, fun _ _ h => h, x, S1, .nil⟩
  | cons r rs ih =>
    intro ds x S1 e
    cases h with
    | @cons H0 H2 v r vs rs hr hd hn ht =>
      obtain ⟨b, l, e1, e2, rfl⟩ := mapM_cons e
      obtain ⟨G2, s2, x2, S2, r2, k2⟩ := RR.data S x S1 (hr.weak d) e1
      have ht2 : RRs Z G2 H1 σ ρ H2 vs rs := ht.subG s2 fun c hc gc => k2 c gc fun es er ev => hn es c er ev hc
      obtain ⟨G3, s3, x3, S3, r3⟩ := ih ht2 (fun c hc => hd c (d c hc)) x2 S2 e2
      exact ⟨G3, fun c o z => s3 c o (s2 c o z), x3, S3, .cons (Rp.sub s3 r2) r3⟩
variable (Z Wx G0 E0) in
def SA (f : En → Dw → Res (List RV)) : TA := fun σ H Q => ∃ G ρ w, Stt Z G0 E0 G H σ ρ w ∧ Out Z Wx G0 E0 (fun rs w' => ∀ vs G' H', Nx G H G' H' → Stt Z G0 E0 G' H' σ ρ w' → RRs Z G' H' σ ρ H vs rs → Q vs H') (f ρ w)
variable {X : Cx} {e : Expr} {es : List Expr} {pos : Pos} {f g : En → Dw → Res RV} {fs : En → Dw → Res (List RV)}
theorem starEach_cons {e : Expr} {es : List Expr} {env : Env} (h : ∀ x p, e ≠ .Starred x p) : starEach (e :: es) env = (false, eval e env) :: starEach es env := by
  cases e <;> first | rfl | exact absurd rfl (h _ _)
theorem pa_n : PA X [] (SA Z Wx G0 E0 fun _ w => .ok [] w) := PA.imp pa_nil fun σ H Q ⟨G, ρ, w, S, k⟩ => k [] G H (Nx.refl G H) S .nil
theorem pa_c (ha : PE X e (SE Z Wx G0 E0 f)) (hr : PA X es (SA Z Wx G0 E0 fs)) (hs : ∀ x p, e ≠ .Starred x p) : PA X (e :: es) (SA Z Wx G0 E0 fun ρ w => (f ρ w).bind fun u w => (fs ρ w).bind fun us w => .ok (u :: us) w) :=
  PA.imp (pa_cons ha hr (starEach_cons hs)) fun σ H Q ⟨G, ρ, w, S, k⟩ => ⟨G, ρ, w, S, (out_bind.mp k).mono fun u w1 h1 v1 G1 H1 x1 S1 r1 =>
    ⟨G1, ρ, w1, S1, (out_bind.mp h1).mono fun us w2 h2 vs G2 H2 x2 S2 r2 => h2 (v1 :: vs) G2 H2 (x1.trans x2) S2 (.cons (S1.rrMono x2 r1) x1.dom (fun ds a er ev => by
      subst er
      obtain ⟨b, xs, e1, h1, _⟩ := r1
      rw [ev] at e1
      cases e1
      rw [h1]
      simp) r2)⟩⟩
theorem pa_s {p : Pos} (hK : X.K = Z.K) (ha : PE X e (SE Z Wx G0 E0 f)) (hr : PA X es (SA Z Wx G0 E0 fs)) : PA X (.Starred e p :: es) (SA Z Wx G0 E0 fun ρ w => (f ρ w).bind fun u w => match u.seq with
    | none => .bad
    | some (_, ds) => (fs ρ w).bind fun us w => .ok (ds.map .v ++ us) w) :=
  PA.imp (StX.pa_star ha hr) fun σ H Q ⟨G, ρ, w, S, k⟩ => ⟨G, ρ, w, S, (out_bind.mp k).mono fun u w1 h1 v1 G1 H1 x1 S1 r1 => by
    cases q : u.seq with
    | none => rw [q] at h1; exact h1.elim
    | some kd =>
      obtain ⟨k', ds⟩ := kd
      rw [q] at h1
      obtain ⟨a, xs, rfl, h2, h3⟩ := r1.seqA S1.gl q
      refine ⟨a, xs, rfl, by rw [hK]; exact h2.symm, G1, ρ, w1, S1, (out_bind.mp h1).mono fun us w2 h4 vs G2 H2 x2 S2 r2 => h4 (xs ++ vs) G2 H2 (x1.trans x2) S2 ((r2.weak x1.dom).data (RpL.sub x2.g h3))⟩⟩
/-! ### displays -/
theorem pe_tu {j : Nat} (ha : PA X es (SA Z Wx G0 E0 fs)) : PE X (.Tuple es j pos) (SE Z Wx G0 E0 fun ρ w => (fs ρ w).bind fun rs w => match rs.mapM RV.toD with
    | none => .bad
    | some ds => if ds.length ≤ sizeLine then .ok (.v (.tup ds)) w else .bad) :=
  PE.imp (pe_tup ha) fun σ H Q ⟨G, ρ, w, S, k⟩ => ⟨G, ρ, w, S, (out_bind.mp k).mono fun rs w1 h1 vs G1 H1 x1 S1 r1 => by
    cases q : rs.mapM RV.toD with
    | none => rw [q] at h1; exact h1.elim
    | some ds =>
      rw [q] at h1
      have h1 : Out Z Wx G0 E0 _ (if ds.length ≤ sizeLine then _ else _) := h1
      split at h1
      · rename_i hz
        obtain ⟨G2, s2, x2, S2, r2⟩ := r1.datas S (fun _ h => h) x1 S1 q
        exact ⟨by rw [r2.length]; exact hz, fun p hp => KE.newT S2 (KE.trans x2 h1) r2 hp⟩
      · exact h1.elim⟩
theorem pe_li (ha : PA X es (SA Z Wx G0 E0 fs)) : PE X (.List es pos) (SE Z Wx G0 E0 fun ρ w => (fs ρ w).bind fun rs w => match rs.mapM RV.toD with
    | none => .bad
    | some ds => if ds.length ≤ sizeLine then .ok (.n ds) w else .bad) :=
  PE.imp (pe_lst ha) fun σ H Q ⟨G, ρ, w, S, k⟩ => ⟨G, ρ, w, S, (out_bind.mp k).mono fun rs w1 h1 vs G1 H1 x1 S1 r1 => by
    cases q : rs.mapM RV.toD with
    | none => rw [q] at h1; exact h1.elim
    | some ds =>
      rw [q] at h1
      have h1 : Out Z Wx G0 E0 _ (if ds.length ≤ sizeLine then _ else _) := h1
      split at h1
      · rename_i hz
        obtain ⟨G2, s2, x2, S2, r2⟩ := r1.datas S (fun _ h => h) x1 S1 q
        exact ⟨by rw [r2.length]; exact hz, fun p hp => KE.newL S2 (KE.trans x2 h1) r2 hp⟩
      · exact h1.elim⟩
/-! ### subscripts -/
theorem atI_rp {G : Hp} {xs : List V} {ds : List D} {i : Int} {d : D} (r : RpL Z G xs ds) (h : atI ds i = some d) : ∃ x, atI xs i = some x ∧ Rp Z G x d := by
  unfold atI at h ⊢
  rw [r.length]
  cases q : ixN ds.length i with
  | none => rw [q] at h; cases h
  | some j =>
    rw [q] at h
    exact r.get h
theorem pe_ixA {a b : Expr} (hK : X.K = Z.K) (ha : PE X a (SE Z Wx G0 E0 f)) (hb : PE X b (SE Z Wx G0 E0 g)) (hs : PlainIx b) : PE X (.Subscript a b pos) (SE Z Wx G0 E0 fun ρ w => (f ρ w).bind fun u w => (g ρ w).bind fun v w => match u.seq, v with
    | some (_, ds), .v (.int j) => .opt ((atD ds j).map .v) w
    | _, _ => .bad) :=
  PE.imp (pe_ix ix_seq ha hb hs) fun σ H Q ⟨G, ρ, w, S, k⟩ => ⟨G, ρ, w, S, (out_bind.mp k).mono fun u w1 h1 v1 G1 H1 x1 S1 r1 => ⟨G1, ρ, w1, S1, (out_bind.mp h1).mono fun v w2 h2 v2 G2 H2 x2 S2 r2 => by
    split at h2
    · rename_i k' ds j e1
      obtain ⟨c, e2, k2⟩ := out_opt.mp h2
      cases q : atD ds j with
      | none => rw [q] at e2; cases e2
      | some d =>
        rw [q] at e2
        cases e2
        cases r2
        obtain ⟨p, xs, rfl, h3, h4⟩ := (S1.rrMono x2 r1).seqA S2.gl e1
        obtain ⟨x, e3, r3⟩ := atI_rp h4 q
        have fin : Q x H2 := (KE.trans (x1.trans x2) k2).here S2 r3
        rw [hK]
        rcases h3 with h3 | h3
        · exact .inl ⟨p, xs, j, x, rfl, rfl, h3, e3, fin⟩
        · exact .inr (.inl ⟨p, xs, j, x, rfl, rfl, h3, e3, fin⟩)
    · exact h2.elim⟩⟩
/-! ### slices -/
variable (Z Wx G0 E0) in
def SO (f : En → Dw → Res (Option Int)) : TO := fun σ H Q => ∃ G ρ w, Stt Z G0 E0 G H σ ρ w ∧ Out Z Wx G0 E0 (fun o w' => ∀ G' H', Nx G H G' H' → Stt Z G0 E0 G' H' σ ρ w' → Q o H') (f ρ w)
theorem po_n : PO X none (SO Z Wx G0 E0 fun _ w => .ok none w) := ⟨fun pins s σ H Q I ⟨G, ρ, w, S, k⟩ => po_none.run pins s σ H Q I (k G H (Nx.refl G H) S)⟩
theorem po_s {a : Expr} (ha : PE X a (SE Z Wx G0 E0 f)) : PO X (some a) (SO Z Wx G0 E0 fun ρ w => (f ρ w).bind fun u w => .opt (u.int.map some) w) := ⟨fun pins s σ H Q I ⟨G, ρ, w, S, k⟩ => (po_some ha).run pins s σ H Q I ⟨G, ρ, w, S, (out_bind.mp k).mono fun u w1 h1 v1 G1 H1 x1 S1 r1 => by
  obtain ⟨c, e, k1⟩ := out_opt.mp h1
  cases u with
  | v d =>
    cases d with
    | int i => cases e; cases r1; exact ⟨i, rfl, k1 G1 H1 x1 S1⟩
    | _ => cases e
  | _ => cases e⟩⟩
theorem cut_rp {G : Hp} {xs : List V} {ds : List D} {lo hi : Option Int} (r : RpL Z G xs ds) : RpL Z G (cutV xs lo hi) (cutD ds lo hi) := by
  unfold cutV cutD
  rw [r.length]
  exact (r.drop _).take _
theorem cut_whole {α : Type} (xs : List α) (lo hi : Option Int) (h : HT.sIx xs.length 0 lo = 0 ∧ HT.sIx xs.length xs.length hi = xs.length) : (xs.drop (HT.sIx xs.length 0 lo)).take (HT.sIx xs.length xs.length hi - HT.sIx xs.length 0 lo) = xs := by
  rw [h.1, h.2, List.drop_zero, Nat.sub_zero, List.take_length]
theorem pe_slA {a : Expr} {lo hi : Option Expr} {p2 : Pos} {fl fh : En → Dw → Res (Option Int)} (hK : X.K = Z.K) (ha : PE X a (SE Z Wx G0 E0 f)) (hl : PO X lo (SO Z Wx G0 E0 fl)) (hh : PO X hi (SO Z Wx G0 E0 fh)) :
    PE X (.Subscript a (.Slice lo hi none p2) pos) (SE Z Wx G0 E0 fun ρ w => (f ρ w).bind fun u w => (fl ρ w).bind fun l w => (fh ρ w).bind fun h w => match u.seq with
    | some (true, ds) => .ok (.v (.tup (cutD ds l h))) w
    | some (false, ds) => .ok (.n (cutD ds l h)) w
    | none => .bad) :=
  PE.imp (pe_slice (sl_list.or sl_tupA) ha hl hh) fun σ H Q ⟨G, ρ, w, S, k⟩ => ⟨G, ρ, w, S, (out_bind.mp k).mono fun u w1 h1 v1 G1 H1 x1 S1 r1 => ⟨G1, ρ, w1, S1, (out_bind.mp h1).mono fun l w2 h2 G2 H2 x2 S2 => ⟨G2, ρ, w2, S2, (out_bind.mp h2).mono fun h w3 h3 G3 H3 x3 S3 => by
    have r3 := S2.rrMono x3 (S1.rrMono x2 r1)
    have xx := (x1.trans x2).trans x3
    rw [hK]
    split at h3
    · rename_i ds e1
      obtain ⟨p, xs, rfl, q1, q2, rfl, g1⟩ := r3.seqT S3.gl e1
      refine .inr ⟨p, xs, rfl, q1, fun hw => ?_, fun hw o ho => ?_⟩
      · refine (KE.trans xx h3).here S3 ?_
        have e : cutD ds l h = ds := cut_whole ds l h (by rw [← q2.length]; exact hw)
        rw [e]
        exact .tup g1 q2
      · exact (KE.trans xx h3).newT S3 (cut_rp q2) ho
    · rename_i ds e1
      obtain ⟨p, xs, rfl, q1, q2⟩ := r3.seqL S3.gl e1
      exact .inl ⟨p, xs, rfl, SqL.of q1, fun o ho => (KE.trans xx h3).newL S3 (cut_rp q2) ho⟩
    · exact h3.elim⟩⟩⟩
end
end VM
set_option Elab.async false
set_option linter.all false
set_option maxRecDepth 100000
/-! VmH: what is walked; list comprehensions. -/
namespace VM
open PySem PySem.Spec L2
/-- the walk J gives the items, whenever the frozen part G stands -/
structure ItOk (Z : Zed) (J : It) (G : Hp) (items : List D) : Prop where
  go : ∀ (i : Nat) (G2 H : Hp) (w : Dw), Sub G G2 → Gg Z G2 H w → i < items.length → J.go i H
  stop : ∀ (G2 H : Hp) (w : Dw), Sub G G2 → Gg Z G2 H w → J.stop items.length H
  yld : ∀ (i : Nat) (G2 H H' : Hp) (w : Dw) (x : V) (d : D), Sub G G2 → Gg Z G2 H w → items[i]? = some d → J.yld i H x H' → ∃ G3, Nx G2 H G3 H' ∧ Gg Z G3 H' w ∧ Rp Z G3 x d
section
variable {Z : Zed} {Wx : Value → Option Addr → Hp → Prop} {G0 E0 : Hp}
variable (Z Wx G0 E0) in
def SI (f : En → Dw → Res (List D)) : TI := fun σ H R => ∃ G ρ w, Stt Z G0 E0 G H σ ρ w ∧ Out Z Wx G0 E0 (fun items w' => ∀ J G' H', Nx G H G' H' → Stt Z G0 E0 G' H' σ ρ w' → ItOk Z J G' items → R J H') (f ρ w)
theorem itok_list {a : Addr} {xs : List V} {ds : List D} {G : Hp} (h : SqL Z.K G a xs) (r : RpL Z G xs ds) : ItOk Z (Itl Z.K a) G ds where
  go := fun i G2 H w s g hi => by
    have hi' : i < xs.length := by rw [r.length]; exact hi
    exact ⟨xs, xs[i], g.sqL (SqL.sub s h), by simp [hi']⟩
  stop := fun G2 H w s g => ⟨xs, g.sqL (SqL.sub s h), by rw [r.length]; exact Nat.le_refl _⟩
  yld := fun i G2 H H' w x d s g hd hy => by
    obtain ⟨e, y⟩ := hy
    subst e
    obtain ⟨x', e', rx⟩ := (RpL.sub s r).get hd
    have := y xs (g.sqL (SqL.sub s h))
    rw [this] at e'
    cases e'
    exact ⟨G2, Nx.refl _ _, g, rx⟩
theorem itok_tup {a : Addr} {xs : List V} {ds : List D} {G : Hp} (h : SqT Z.K G a xs) (r : RpL Z G xs ds) : ItOk Z (Itt Z.K a) G ds where
  go := fun i G2 H w s g hi => by
    have hi' : i < xs.length := by rw [r.length]; exact hi
    exact ⟨xs, xs[i], g.sqT (SqT.sub s h), by simp [hi']⟩
  stop := fun G2 H w s g => ⟨xs, g.sqT (SqT.sub s h), by rw [r.length]; exact Nat.le_refl _⟩
  yld := fun i G2 H H' w x d s g hd hy => by
    obtain ⟨e, y⟩ := hy
    subst e
    obtain ⟨x', e', rx⟩ := (RpL.sub s r).get hd
    have := y xs (g.sqT (SqT.sub s h))
    rw [this] at e'
    cases e'
    exact ⟨G2, Nx.refl _ _, g, rx⟩
theorem rngL_length (lo st : Int) (n : Nat) : (rngL lo st n).length = n := by unfold rngL; rw [List.length_map, List.length_range]
theorem rngL_get {lo st : Int} {n i : Nat} {d : D} (h : (rngL lo st n)[i]? = some d) : d = .int (lo + (i : Nat) * st) := by
  unfold rngL at h
  rw [List.getElem?_map] at h
  cases q : (List.range n)[i]? with
  | none => rw [q] at h; cases h
  | some j =>
    rw [q] at h
    cases h
    have : j = i := by
      rw [List.getElem?_range] at q
      · exact (Option.some.inj q).symm
      · exact (List.getElem?_eq_some_iff.mp q).1 |> (by simpa using ·)
    rw [this]
theorem itok_rng {lo : Int} {n : Nat} {G : Hp} : ItOk Z (Itr lo n) G (rngL lo 1 n) where
  go := fun i G2 H w s g hi => by rw [rngL_length] at hi; exact hi
  stop := fun G2 H w s g => by rw [rngL_length]; exact Nat.le_refl n
  yld := fun i G2 H H' w x d s g hd hy => by
    obtain ⟨e, y⟩ := hy
    subst e y
    rw [rngL_get hd, Int.mul_one]
    exact ⟨G2, Nx.refl _ _, g, .int _⟩
theorem itok_rngC {lo c : Int} {n : Nat} {G : Hp} : ItOk Z (Itc lo c n) G (rngL lo c n) where
  go := fun i G2 H w s g hi => by rw [rngL_length] at hi; exact hi
  stop := fun G2 H w s g => by rw [rngL_length]; exact Nat.le_refl n
  yld := fun i G2 H H' w x d s g hd hy => by
    obtain ⟨e, y⟩ := hy
    subst e y
    rw [rngL_get hd]
    exact ⟨G2, Nx.refl _ _, g, .int _⟩
variable {X : Cx} {tg e : Expr} {es : List Expr} {pos : Pos} {f g : En → Dw → Res RV} {fs : En → Dw → Res (List RV)}
theorem PI.imp {X : Cx} {tg e : Expr} {t t' : TI} (h : PI X tg e t) (i : ∀ σ H R, t' σ H R → t σ H R) : PI X tg e t' := ⟨fun pins s σ H Q I q => h.run pins s σ H Q I (i σ H Q q)⟩
/-- a value that is walked: a list or a tuple -/
theorem pi_any (he : PE X e te) : PI X tg e (fun σ H R => te σ H fun x H1 => ∃ a, x = .ref a ∧ (((∃ xs, SqL X.K H1 a xs) ∧ R (Itl X.K a) H1) ∨ ((∃ xs, SqT X.K H1 a xs) ∧ R (Itt X.K a) H1))) := by
  refine ⟨fun pins s σ H R I h => ?_⟩
  refine thn (he.run pins s σ H _ I h) fun v s1 ⟨x, H1, I1, r1, a, ex, q⟩ => ?_
  subst ex
  cases r1
  rcases q with ⟨⟨xs, hq⟩, q⟩ | ⟨⟨xs, hq⟩, q⟩
  · obtain ⟨its, rv, p, hz⟩ := I1.list hq
    refine wpAny_pyIter_list p.isList ?_
    refine ⟨s1.heap.objs.size, [s1.heap.objs.size], _, _, H1, rfl, I1.kept (t' := s1.toks) fun b o e => Heap.get?_push_of_some _ e, turn_list a _, ⟨_, Heap.get?_push_size _ rfl, rfl, rfl⟩, fun b hb => ?_, q⟩
    have e : b = s1.heap.objs.size := by simpa using hb
    subst e
    exact I1.fpOk (Nat.le_refl _) (I1.hok.fresh (Nat.le_refl _))
  · obtain ⟨its, rv, p, hz⟩ := I1.tuple hq
    refine wpAny_pyIter_tuple (show s1.heap.IsTuple a its.toArray from p) ?_
    refine ⟨s1.heap.objs.size, [s1.heap.objs.size], _, _, H1, rfl, I1.kept (t' := s1.toks) fun b o e => Heap.get?_push_of_some _ e, turn_tuple a _, ⟨_, Heap.get?_push_size _ rfl, rfl, rfl⟩, fun b hb => ?_, q⟩
    have e : b = s1.heap.objs.size := by simpa using hb
    subst e
    exact I1.fpOk (Nat.le_refl _) (I1.hok.fresh (Nat.le_refl _))
theorem pi_e (hK : X.K = Z.K) (he : PE X e (SE Z Wx G0 E0 f)) : PI X tg e (SI Z Wx G0 E0 fun ρ w => (f ρ w).bind fun u w => match u.toD with
    | some (.tup ds) => .ok ds w
    | some (.lst ds) => .ok ds w
    | some (.scr ds) => .ok ds w
    | _ => .bad) :=
  PI.imp (pi_any he) fun σ H R ⟨G, ρ, w, S, k⟩ => ⟨G, ρ, w, S, (out_bind.mp k).mono fun u w1 h1 v1 G1 H1 x1 S1 r1 => by
    rw [hK]
    split at h1
    · rename_i ds e1
      obtain ⟨G2, s2, x2, S2, r2, _⟩ := RR.data S x1 S1 r1 e1
      cases r2 with
      | tup h2 h3 => exact ⟨_, rfl, .inr ⟨⟨_, S2.gl.sqT h2⟩, h1 _ G2 H1 x2 S2 (itok_tup h2 h3)⟩⟩
    · rename_i ds e1
      obtain ⟨G2, s2, x2, S2, r2, _⟩ := RR.data S x1 S1 r1 e1
      cases r2 with
      | lst h2 h3 => exact ⟨_, rfl, .inl ⟨⟨_, S2.gl.sqL (SqL.of h2)⟩, h1 _ G2 H1 x2 S2 (itok_list (SqL.of h2) h3)⟩⟩
    · rename_i ds e1
      obtain ⟨G2, s2, x2, S2, r2, _⟩ := RR.data S x1 S1 r1 e1
      cases r2 with
      | scr h2 h3 => exact ⟨_, rfl, .inl ⟨⟨_, S2.gl.sqL h2⟩, h1 _ G2 H1 x2 S2 (itok_list h2 h3)⟩⟩
    · exact h1.elim⟩
end
end VM
set_option Elab.async false
set_option linter.all false
set_option maxRecDepth 100000
/-! VmI: slots stored, targets, list comprehensions. -/
namespace VM
open PySem PySem.Spec L2
section
variable {Z : Zed} {Wx : Value → Option Addr → Hp → Prop} {G0 E0 : Hp}
theorem en_set_self {ρ : En} {i : Nat} {s : Sl} (h : i < ρ.length) : (ρ.set i s)[i]? = some s := List.getElem?_set_self h
theorem Stt.setV' {G H : Hp} {σ : St} {ρ : En} {w : Dw} (S : Stt Z G0 E0 G H σ ρ w) {i : Nat} {v : V} {d : D} (hi : i < ρ.length) (r : Rp Z G v d) : Stt Z G0 E0 G H (σ.set i (some v)) (ρ.set i (.v d)) w where
  nx := S.nx
  gl := S.gl
  len := by rw [List.length_set, List.length_set, S.len]
  val := fun j e h => by
    by_cases z : i = j
    · subst z
      rw [List.getElem?_set_self hi] at h
      cases h
      exact ⟨v, List.getElem?_set_self (by rw [S.len]; exact hi), r⟩
    · rw [List.getElem?_set_ne z] at h
      rw [List.getElem?_set_ne z]
      exact S.val j e h
  own := fun j ds h => by
    by_cases z : i = j
    · subst z
      rw [List.getElem?_set_self hi] at h
      cases h
    · rw [List.getElem?_set_ne z] at h
      rw [List.getElem?_set_ne z]
      exact S.own j ds h
  apt := fun j k ds es a n h1 h2 h3 => by
    have zj : i ≠ j := fun z => by subst z; rw [List.getElem?_set_self hi] at h1; cases h1
    have zk : i ≠ k := fun z => by subst z; rw [List.getElem?_set_self hi] at h2; cases h2
    rw [List.getElem?_set_ne zj] at h1 h3
    rw [List.getElem?_set_ne zk] at h2 ⊢
    exact S.apt j k ds es a n h1 h2 h3
theorem Stt.setV {G H : Hp} {σ : St} {ρ : En} {w : Dw} (S : Stt Z G0 E0 G H σ ρ w) {i : Nat} {v : V} {d : D} (r : Rp Z G v d) : Stt Z G0 E0 G H (σ.set i (some v)) (ρ.set i (.v d)) w := by
  by_cases hi : i < ρ.length
  case neg =>
    rw [List.set_eq_of_length_le (by rw [S.len]; omega), List.set_eq_of_length_le (by omega)]
    exact S
  exact Stt.setV' S hi r
/-- a slot forgotten -/
theorem Stt.kill {G H : Hp} {σ : St} {ρ : En} {w : Dw} (S : Stt Z G0 E0 G H σ ρ w) (i : Nat) (o : Option V) : Stt Z G0 E0 G H (σ.set i o) (ρ.set i .no) w where
  nx := S.nx
  gl := S.gl
  len := by rw [List.length_set, List.length_set, S.len]
  val := fun j e h => by
    by_cases z : i = j
    · subst z
      by_cases hi : i < ρ.length
      · rw [List.getElem?_set_self hi] at h
        cases h
      · rw [List.getElem?_eq_none (by rw [List.length_set]; omega)] at h
        cases h
    · rw [List.getElem?_set_ne z] at h
      rw [List.getElem?_set_ne z]
      exact S.val j e h
  own := fun j ds h => by
    by_cases z : i = j
    · subst z
      by_cases hi : i < ρ.length
      · rw [List.getElem?_set_self hi] at h
        cases h
      · rw [List.getElem?_eq_none (by rw [List.length_set]; omega)] at h
        cases h
    · rw [List.getElem?_set_ne z] at h
      rw [List.getElem?_set_ne z]
      exact S.own j ds h
  apt := fun j k ds es a n h1 h2 h3 => by
    have no : ∀ {l : Nat} {es : List D}, (ρ.set i .no)[l]? = some (Sl.own es) → i ≠ l := fun {l es} h z => by
      subst z
      by_cases hi : i < ρ.length
      · rw [List.getElem?_set_self hi] at h
        cases h
      · rw [List.getElem?_eq_none (by rw [List.length_set]; omega)] at h
        cases h
    have zj := no h1
    have zk := no h2
    rw [List.getElem?_set_ne zj] at h1 h3
    rw [List.getElem?_set_ne zk] at h2 ⊢
    exact S.apt j k ds es a n h1 h2 h3
theorem Stt.wipe {G H : Hp} {σ : St} {ρ : En} {w : Dw} (S : Stt Z G0 E0 G H σ ρ w) : ∀ vs : List Nat, Stt Z G0 E0 G H (wipe σ vs) (wipeE ρ vs) w
  | [] => S
  | v :: vs => (Stt.wipe S vs).kill v none
theorem wipeE_length (ρ : En) : ∀ vs : List Nat, (wipeE ρ vs).length = ρ.length
  | [] => rfl
  | v :: vs => by unfold wipeE; rw [List.length_set, wipeE_length ρ vs]
/-- the slots of a target -/
def Pt.slots : Pt → List Nat
  | .nm i => [i]
  | .tp is => is
variable (Z G0 E0) in
def SG (p : Pt) : TG := fun v σ H Q => ∃ G ρ w d ρ1, Stt Z G0 E0 G H σ ρ w ∧ Rp Z G v d ∧ bindP p d ρ = some ρ1 ∧ ∀ σ1, Stt Z G0 E0 G H σ1 ρ1 w → (∀ i, i ∉ p.slots → σ1[i]? = σ[i]?) → σ1.length = σ.length → Q σ1 H
variable {X : Cx}
theorem PG.imp {tg : Expr} {t t' : TG} (h : PG X tg t) (i : ∀ v σ H Q, t' v σ H Q → t v σ H Q) : PG X tg t' := ⟨fun pins s σ H v u Q I r q => h.run pins s σ H v u Q I r (i v σ H Q q)⟩
theorem PG.or {tg : Expr} {t t' : TG} (h : PG X tg t) (h' : PG X tg t') : PG X tg (fun v σ H Q => t v σ H Q ∨ t' v σ H Q) := ⟨fun pins s σ H v u Q I r q => q.elim (h.run pins s σ H v u Q I r) (h'.run pins s σ H v u Q I r)⟩
theorem pg_nm {i : Nat} {x : Str} {pos : Pos} (hN : X.N.Nodup) (hi : X.N[i]? = some x) (hx : Loc X.env.scope x) (hf : X.fn x = true ∨ X.env.scope.names.lookup x = some .local) : PG X (.Name x pos) (SG Z G0 E0 (.nm i)) :=
  PG.imp (pg_name hN hi hx hf) fun v σ H Q ⟨G, ρ, w, d, ρ1, S, r, e, k⟩ => by
    cases e
    refine k _ (S.setV r) (fun j hj => ?_) (by rw [List.length_set])
    have z : i ≠ j := fun z => hj (by rw [z]; exact List.mem_singleton.mpr rfl)
    exact List.getElem?_set_ne z
/-- several plain names, stored from the left -/
def gNms : List Nat → TGs
  | [] => gNil
  | i :: r => gCons (gName i) (gNms r)
structure NmOk (X : Cx) (i : Nat) (e : Expr) : Prop where
  ok : ∃ x pos, e = .Name x pos ∧ X.N[i]? = some x ∧ Loc X.env.scope x ∧ (X.fn x = true ∨ X.env.scope.names.lookup x = some .local)
theorem assignEach_name {x : Str} {pos : Pos} {es : List Expr} {env : Env} : assignEach (.Name x pos :: es) env = (false, assign (.Name x pos) env) :: assignEach es env := rfl
theorem pgs_nms (hN : X.N.Nodup) : ∀ {is : List Nat} {es : List Expr}, Paired (NmOk X) is es → PGs X es (gNms is)
  | _, _, .nil => pgs_nil
  | _, _, .cons ⟨x, pos, e, h1, h2, h3⟩ t => by
    subst e
    exact pgs_cons (pg_name hN h1 h2 h3) (pgs_nms hN t) rfl
theorem nms_len : ∀ {is : List Nat} {es : List Expr}, Paired (NmOk X) is es → (assignEach es X.env).length = es.length ∧ (assignEach es X.env).findIdx? (·.1) = none
  | _, _, .nil => ⟨rfl, rfl⟩
  | _, _, .cons ⟨x, pos, e, _⟩ t => by
    subst e
    obtain ⟨h1, h2⟩ := nms_len t
    rw [assignEach_name]
    refine ⟨by rw [List.length_cons, List.length_cons, h1], ?_⟩
    rw [List.findIdx?_cons, h2]
    rfl
theorem gNms_run {G H : Hp} {w : Dw} {Q : St → Hp → Prop} : ∀ {is : List Nat} {es : List Expr} {vs : List V} {ds : List D} {σ : St} {ρ ρ1 : En}, Paired (NmOk X) is es → Stt Z G0 E0 G H σ ρ w → RpL Z G vs ds → putAll is ds ρ = some ρ1 →
    (∀ σ1, Stt Z G0 E0 G H σ1 ρ1 w → (∀ i, i ∉ is → σ1[i]? = σ[i]?) → σ1.length = σ.length → Q σ1 H) → gNms is vs σ H Q
  | _, _, _, _, σ, ρ, ρ1, .nil, S, r, e, k => by
    cases r with
    | nil =>
      cases e
      exact ⟨rfl, k _ S (fun _ _ => rfl) rfl⟩
    | cons _ _ => cases e
  | i :: is, _, _, _, σ, ρ, ρ1, .cons ⟨x, pos, e0, _, _, _⟩ t, S, r, e, k => by
    cases r with
    | nil => cases e
    | @cons v vs d ds r1 r2 =>
      refine ⟨v, vs, rfl, gNms_run t (S.setV r1) r2 e fun σ1 S1 h1 h2 => k σ1 S1 (fun j hj => ?_) (by rw [h2, List.length_set])⟩
      have z : i ≠ j := fun z => hj (by rw [z]; exact List.mem_cons_self)
      rw [h1 j (fun q => hj (List.mem_cons_of_mem _ q)), List.getElem?_set_ne z]
theorem pg_tp {is : List Nat} {es : List Expr} {k : Nat} {pos : Pos} (hc : X.calm = true) (hN : X.N.Nodup) (hK : X.K = Z.K) (h : Paired (NmOk X) is es) : PG X (.Tuple es k pos) (SG Z G0 E0 (.tp is)) := by
  have hl := nms_len h
  have hll : is.length = es.length := Paired.length h
  have lenPut : ∀ {is : List Nat} {ds : List D} {ρ ρ1 : En}, putAll is ds ρ = some ρ1 → is.length = ds.length := by
    intro is
    induction is with
    | nil => intro ds ρ ρ1 e; cases ds with
      | nil => rfl
      | cons _ _ => cases e
    | cons i is ih => intro ds ρ ρ1 e; cases ds with
      | nil => cases e
      | cons d ds => rw [List.length_cons, List.length_cons, ih e]
  refine PG.imp (PG.or (pg_tup (n := es.length) hc (pgs_nms hN h) hl.1 hl.2) (pg_lst (n := es.length) hc (pgs_nms hN h) hl.1 hl.2)) fun v σ H Q ⟨G, ρ, w, d, ρ1, S, r, e, kk⟩ => ?_
  cases d with
  | tup ds =>
    have e : putAll is ds ρ = some ρ1 := e
    cases r with
    | tup h1 h2 => exact .inl ⟨_, _, rfl, by rw [hK]; exact S.gl.sqT h1, by rw [h2.length, ← lenPut e, hll], gNms_run h S h2 e kk⟩
  | lst ds =>
    have e : putAll is ds ρ = some ρ1 := e
    cases r with
    | lst h1 h2 => exact .inr ⟨_, _, rfl, by rw [hK]; exact S.gl.sqL (SqL.of h1), by rw [h2.length, ← lenPut e, hll], gNms_run h S h2 e kk⟩
  | _ => cases e
/-- the list that grows -/
theorem Stt.updF {G H : Hp} {σ : St} {ρ : En} {w : Dw} (S : Stt Z G0 E0 G H σ ρ w) {p : Addr} {xs ys : List V} (hp : H p = some (.lst xs)) (gp : G p = none) (ep : E0 p = none) (no : ∀ (i : Nat) (ds : List D), ρ[i]? = some (Sl.own ds) → σ[i]? ≠ some (some (V.ref p))) :
    Stt Z G0 E0 G (upd H p (.lst ys)) σ ρ w where
  nx := ⟨S.nx.g, fun b o e n m => by
    have : b ≠ p := fun z => by rw [z, ep] at e; cases e
    rw [upd_ne this]
    exact S.nx.h b o e n m, fun b e => by
    by_cases z : b = p
    · rw [z, upd_same]; simp
    · rw [upd_ne z]; exact S.nx.dom b e, S.nx.new⟩
  gl := by
    have ne : ∀ b o, G b = some o → b ≠ p := fun b o e z => by rw [z, gp] at e; cases e
    refine ⟨fun b o e n => by rw [upd_ne (ne b o e)]; exact S.gl.gok b o e n, S.gl.gty, fun b o e => by rw [upd_ne (ne b o e)]; exact S.gl.gin b o e, S.gl.mks, ?_, ?_⟩
    · have d := S.gl.dw
      unfold DwOk at d ⊢
      split at d
      · rename_i on
        rw [if_pos on]
        obtain ⟨a, l, kvs, zs, vr, vc, vt, h1, h2, h3, h4, h5, h6, h7, h8, h9, h10, h11, h12⟩ := d
        exact ⟨a, l, kvs, zs, vr, vc, vt, h1, h2, h3, h4, by rw [upd_ne (ne _ _ h1)]; exact h5, h6, h7, h8, h9, h10, by rw [upd_ne (ne _ _ h2)]; exact h11, h12⟩
      · rename_i on
        rw [if_neg on]
        exact d
    · intro q hq
      obtain ⟨ps, h1, h2, h3⟩ := S.gl.tab q hq
      have nt : ∀ b o, H b = some o → (∀ xs, o ≠ .lst xs) → b ≠ p := fun b o e n z => by rw [z, hp] at e; cases e; exact n _ rfl
      refine ⟨ps, by rw [upd_ne (nt _ _ h1 (fun _ z => by cases z))]; exact h1, h2, fun pos cv hc => ?_⟩
      obtain ⟨c, e1, e2⟩ := h3 pos cv hc
      exact ⟨c, e1, by rw [upd_ne (nt _ _ e2 (fun _ z => by unfold LamX.CodeO at z; cases z))]; exact e2⟩
  len := S.len
  val := S.val
  own := fun i ds e => by
    obtain ⟨a, zs, h1, h2, h3, h4, h5⟩ := S.own i ds e
    have : a ≠ p := fun z => no i ds e (by rw [h1, z])
    exact ⟨a, zs, h1, by rw [upd_ne this]; exact h2, h3, h4, h5⟩
  apt := S.apt
end
end VM
set_option Elab.async false
set_option linter.all false
set_option maxRecDepth 100000
/-! VmJ: list comprehensions. -/
namespace VM
open PySem PySem.Spec L2
section
variable {Z : Zed} {Wx : Value → Option Addr → Hp → Prop} {G0 E0 : Hp}
/-- no exception -/
abbrev W0 : Value → Option Addr → Hp → Prop := fun _ _ _ => False
variable (Z Wx G0 E0) in
def SB (f : En → Dw → Res Bool) : TT := fun σ H Q => ∃ G ρ w, Stt Z G0 E0 G H σ ρ w ∧ Out Z Wx G0 E0 (fun b w' => ∀ G' H', Nx G H G' H' → Stt Z G0 E0 G' H' σ ρ w' → Q b H') (f ρ w)
variable {X : Cx} {f : En → Dw → Res RV}
theorem PTs.imp {X : Cx} {e : List Expr} {t t' : TT} (h : PTs X e t) (i : ∀ σ H Q, t' σ H Q → t σ H Q) : PTs X e t' := ⟨fun pins s σ H Q I q => h.run pins s σ H Q I (i σ H Q q)⟩
theorem pts_n : PTs X [] (SB Z Wx G0 E0 fun _ w => .ok true w) := PTs.imp pts_nil fun σ H Q ⟨G, ρ, w, S, k⟩ => k G H (Nx.refl G H) S
theorem pts_s {c : Expr} (hc : PT X c (ST Z Wx G0 E0 f)) : PTs X [c] (SB Z Wx G0 E0 fun ρ w => (f ρ w).bind fun u w => .opt u.truthy w) := PTs.imp (pts_one hc) fun σ H Q ⟨G, ρ, w, S, k⟩ => ⟨G, ρ, w, S, (out_bind.mp k).mono fun r w1 h1 => by
  obtain ⟨b, e, h2⟩ := out_opt.mp h1
  exact ⟨b, e, h2⟩⟩
theorem compL_noexc {turn : D → Dw → Res (Option D)} : ∀ {l : List D} {w : Dw} {e : Er} {w' : Dw}, compL turn l w ≠ .exc e w'
  | [], w, e, w' => fun z => by cases z
  | d :: r, w, e, w' => fun z => by
    simp only [compL] at z
    split at z
    · rename_i o w1 _
      cases q : compL turn r w1 with
      | ok l w2 => rw [q] at z; cases z
      | exc e2 w2 => exact compL_noexc q
      | bad => rw [q] at z; cases z
    · cases z
theorem compL_cons {turn : D → Dw → Res (Option D)} {d : D} {r : List D} {w w' : Dw} {l : List D} (h : compL turn (d :: r) w = .ok l w') :
    ∃ o w1 l2, turn d w = .ok o w1 ∧ compL turn r w1 = .ok l2 w' ∧ l = (match o with | some x => x :: l2 | none => l2) := by
  simp only [compL] at h
  split at h
  · rename_i o w1 e
    cases q : compL turn r w1 with
    | ok l2 w2 => rw [q] at h; cases h; exact ⟨o, w1, l2, e, q, rfl⟩
    | exc e2 w2 => exact absurd q compL_noexc
    | bad => rw [q] at h; cases h
  · cases h
theorem wipe_set {σ : St} {i : Nat} {o : Option V} : ∀ {vs : List Nat}, i ∈ vs → wipe (σ.set i o) vs = wipe σ vs
  | v :: vs, h => by
    unfold wipe
    by_cases z : i ∈ vs
    · rw [wipe_set z]
    · have e : v = i := by
        rcases List.mem_cons.mp h with q | q
        · exact q.symm
        · exact absurd q z
      subst e
      have com : ∀ (ws : List Nat), v ∉ ws → wipe (σ.set v o) ws = (wipe σ ws).set v o := by
        intro ws
        induction ws with
        | nil => intro _; rfl
        | cons u ws ih =>
          intro hn
          have n1 : v ≠ u := fun q => hn (by rw [q]; exact List.mem_cons_self)
          unfold wipe
          rw [ih fun q => hn (List.mem_cons_of_mem _ q), List.set_comm _ _ n1]
      rw [com vs z, List.set_set]
theorem wipe_get {σ : St} {i : Nat} : ∀ {vs : List Nat}, i ∉ vs → (wipe σ vs)[i]? = σ[i]?
  | [], _ => rfl
  | v :: vs, h => by
    unfold wipe
    rw [List.getElem?_set_ne (fun z => h (by rw [z]; exact List.mem_cons_self)), wipe_get fun z => h (List.mem_cons_of_mem _ z)]
theorem wipe_in {σ : St} {i : Nat} : ∀ {vs : List Nat}, i ∈ vs → (wipe σ vs)[i]? = if i < σ.length then some none else none
  | v :: vs, h => by
    unfold wipe
    by_cases e : v = i
    · subst e
      split
      · rename_i hl
        exact List.getElem?_set_self (by rw [wipe_length]; exact hl)
      · rename_i hl
        exact List.getElem?_eq_none (by rw [List.length_set, wipe_length]; omega)
    · rw [List.getElem?_set_ne e]
      exact wipe_in ((List.mem_cons.mp h).resolve_left fun z => e z.symm)
/-- equal but at the wiped places: equal when wiped -/
theorem wipe_eq {σ σ' : St} {vs : List Nat} (hl : σ'.length = σ.length) (h : ∀ i, i ∉ vs → σ'[i]? = σ[i]?) : wipe σ' vs = wipe σ vs := by
  apply List.ext_getElem?
  intro i
  by_cases z : i ∈ vs
  · rw [wipe_in z, wipe_in z, hl]
  · rw [wipe_get z, wipe_get z, h i z]
theorem wipe_idem {σ : St} {vs : List Nat} : wipe (wipe σ vs) vs = wipe σ vs := wipe_eq (wipe_length _ _) fun i hi => wipe_get hi
theorem own_wipe {σ : St} {G H : Hp} {ρ : En} {w : Dw} (S : Stt Z G0 E0 G H σ ρ w) {p : Addr} (hp : H p = none) : ∀ (i : Nat) (ds : List D), ρ[i]? = some (Sl.own ds) → σ[i]? ≠ some (some (V.ref p)) := fun i ds e q => by
  obtain ⟨a, xs, h1, h2, _⟩ := S.own i ds e
  rw [h1] at q
  cases q
  rw [hp] at h2
  cases h2
theorem drop_cons {α : Type} {l : List α} {i : Nat} (h : i < l.length) : l.drop i = l[i] :: l.drop (i + 1) := List.drop_eq_getElem_cons h
theorem lc_read {own : List (Str × Nat)} {p : Pt} {fS : En → Dw → Res (List D)} {fT : En → Dw → Res Bool} (hp : ∀ i ∈ p.slots, i ∈ own.map (·.2)) {σ : St} {H : Hp} {Q : VK}
    (h : SE Z Wx G0 E0 (fun ρ w => (fS ρ w).bind fun items w =>
      (compL (lcTurn p (wipeE ρ (own.map (·.2))) fT f) items w).bind fun l w => if items.length ≤ sizeLine then .ok (.n l) w else .bad) σ H Q) : tLc (SI Z Wx G0 E0 fS) (SG Z G0 E0 p) (SB Z W0 G0 E0 fT) (SE Z W0 G0 E0 f) (own.map (·.2)) σ H Q := by
  obtain ⟨G, ρ, w, S, k⟩ := h
  refine ⟨G, ρ, w, S, (out_bind.mp k).mono fun items w1 h1 J G1 H1 x1 S1 jt DD hD => ?_⟩
  have k1 := out_bind.mp h1
  generalize hturn : lcTurn p (wipeE ρ (own.map (·.2))) fT f = turn at k1
  cases q0 : compL turn items w1 with
  | exc e w' => exact absurd q0 compL_noexc
  | bad => rw [q0] at k1; exact k1.elim
  | ok l0 w0 =>
    rw [q0] at k1
    have k1 : Out Z Wx G0 E0 (KE Z G0 E0 G H σ ρ Q) (if items.length ≤ sizeLine then .ok (.n l0) w0 else .bad) := k1
    split at k1
    case isFalse => exact k1.elim
    rename_i hz
    have gD : G1 DD = none := S1.fresh hD
    have eD : E0 DD = none := by
      cases q : E0 DD with
      | none => rfl
      | some o => exact absurd hD (S1.nx.dom DD (by rw [q]; simp))
    refine ⟨fun i m H2 => m = items.length - i ∧ i ≤ items.length ∧ ∃ G2 w2 accV accD l w3, Nx G H G2 H2 ∧ Nx G1 H1 G2 H2 ∧ Stt Z G0 E0 G2 H2 σ ρ w2 ∧ H2 DD = some (.lst accV) ∧ G2 DD = none ∧ RpL Z G2 accV accD ∧ accD.length ≤ i ∧ compL turn (items.drop i) w2 = .ok l w3 ∧ accD ++ l = l0 ∧ w3 = w0,
      ⟨items.length, by simp, Nat.zero_le _, G1, w1, [], [], l0, w0, ?_, ?_, ?_, upd_same, gD, .nil, Nat.zero_le _, q0, rfl, rfl⟩, ?_⟩
    · exact x1.trans (Nx.alloc hD)
    · exact Nx.alloc hD
    · exact S1.next (Nx.alloc hD) (S1.gl.alloc hD)
    rintro i m H2 ⟨rfl, hi, G2, w2, accV, accD, l, w3, x2, x2', S2, hD2, gD2, racc, hal, hcl, hsum, rfl⟩
    by_cases hlt : i < items.length
    · refine .inr ⟨jt.go i G2 H2 w2 x2'.g S2.gl hlt, fun H' => ∃ G2 w2 accV accD l, Nx G H G2 H' ∧ Nx G1 H1 G2 H' ∧ Stt Z G0 E0 G2 H' σ ρ w2 ∧ H' DD = some (.lst accV) ∧ G2 DD = none ∧ RpL Z G2 accV accD ∧ accD.length ≤ i + 1 ∧ compL turn (items.drop (i + 1)) w2 = .ok l w3 ∧ accD ++ l = l0,
        fun H' ⟨G2, w2, accV, accD, l, a1, a2, a3, a4, a5, a6, a7, a8, a9⟩ => ⟨items.length - (i + 1), by omega, rfl, hlt, G2, w2, accV, accD, l, w3, a1, a2, a3, a4, a5, a6, a7, a8, a9, rfl⟩, fun x H3 hy => ?_⟩
      obtain ⟨G3, x3, g3, rx⟩ := jt.yld i G2 H2 H3 w2 x items[i] x2'.g S2.gl (List.getElem?_eq_getElem hlt) hy
      have S3 := S2.next x3 g3
      rw [drop_cons hlt] at hcl
      obtain ⟨o, w4, l2, ht1, hr1, hl1⟩ := compL_cons hcl
      rw [← hturn] at ht1
      unfold lcTurn at ht1
      cases qb : bindP p items[i] (wipeE ρ (own.map (·.2))) with
      | none => rw [qb] at ht1; cases ht1
      | some ρ1 =>
        rw [qb] at ht1
        have ht1 : ((fT ρ1 w2).bind fun b w => if b then (f ρ1 w).bind fun r w => (match r.toD with | none => .bad | some x => .ok (some x) w) else .ok none w) = .ok o w4 := ht1
        refine ⟨G3, _, w2, items[i], ρ1, S3.wipe _, rx, qb, fun σ1 S4 hk hl4 => ⟨?_, ?_⟩⟩
        · exact (wipe_eq (by rw [hl4]) fun j hj => hk j fun z => hj (hp j z)).trans wipe_idem
        cases qt : fT ρ1 w2 with
        | exc e w' => rw [qt] at ht1; cases ht1
        | bad => rw [qt] at ht1; cases ht1
        | ok b w5 =>
          rw [qt, Res.bind_ok] at ht1
          refine ⟨G3, ρ1, w2, S4, ?_⟩
          rw [qt]
          intro G5 H5 x5 S5
          -- back in the def's own slots
          have back : ∀ {G6 H6 w6}, Nx G3 H3 G6 H6 → Gg Z G6 H6 w6 → Nx G H G6 H6 ∧ Nx G1 H1 G6 H6 ∧ Stt Z G0 E0 G6 H6 σ ρ w6 ∧ H6 DD = some (.lst accV) ∧ G6 DD = none ∧ RpL Z G6 accV accD := fun {G6 H6 w6} x6 g6 => by
            have xx := x3.trans x6
            refine ⟨x2.trans xx, x2'.trans xx, S3.next x6 g6, xx.h DD _ hD2 (fun _ z => by cases z) (fun _ z => by rw [gD2] at z; cases z), ?_, RpL.sub xx.g racc⟩
            cases q : G6 DD with
            | none => rfl
            | some u =>
              rcases xx.new DD (by rw [q]; simp) with z | z
              · exact absurd gD2 z
              · rw [hD2] at z; cases z
          cases b with
          | false =>
            cases ht1
            obtain ⟨b1, b2, b3, b4, b5, b6⟩ := back x5 S5.gl
            exact iteF ⟨G5, _, accV, accD, l2, b1, b2, b3, b4, b5, b6, by omega, hr1, by rw [← hsum, hl1]⟩
          | true =>
            have ht1 : ((f ρ1 w5).bind fun r w => (match r.toD with | none => .bad | some x => .ok (some x) w)) = .ok o w4 := ht1
            refine iteT ⟨G5, ρ1, w5, S5, ?_⟩
            cases qf : f ρ1 w5 with
            | exc e w' => rw [qf] at ht1; cases ht1
            | bad => rw [qf] at ht1; cases ht1
            | ok r w6 =>
              rw [qf, Res.bind_ok] at ht1
              intro v G6 H6 x6 S6 r6
              cases qd : r.toD with
              | none => rw [qd] at ht1; cases ht1
              | some xd =>
                rw [qd] at ht1
                cases ht1
                obtain ⟨G7, s7, x7, S7, r7, _⟩ := RR.data S5 x6 S6 r6 qd
                obtain ⟨b1, b2, b3, b4, b5, b6⟩ := back (x5.trans x7) S7.gl
                have lenacc : accV.length = accD.length := b6.length
                refine ⟨accV, b4, by omega, G7, w4, accV ++ [v], accD ++ [xd], l2, ?_, ?_, b3.updF b4 b5 eD (own_wipe S (by
                  cases q : H DD with
                  | none => rfl
                  | some u => exact absurd hD (x1.dom DD (by rw [q]; simp)))), upd_same, b5, b6.append (.cons r7 .nil), by rw [List.length_append]; simp only [List.length_cons, List.length_nil]; omega, hr1, by rw [← hsum, hl1]; simp⟩
                · refine ⟨b1.g, fun c u e n m => ?_, fun c e => ?_, b1.new⟩
                  · have nc : c ≠ DD := fun z => by
                      rw [z] at e
                      exact absurd hD (x1.dom DD (by rw [e]; simp))
                    rw [upd_ne nc]
                    exact b1.h c u e n m
                  · by_cases z : c = DD
                    · rw [z, upd_same]; simp
                    · rw [upd_ne z]; exact b1.dom c e
                · refine ⟨b2.g, fun c u e n m => ?_, fun c e => ?_, b2.new⟩
                  · have nc : c ≠ DD := ne_of_none e hD
                    rw [upd_ne nc]
                    exact b2.h c u e n m
                  · by_cases z : c = DD
                    · rw [z, upd_same]; simp
                    · rw [upd_ne z]; exact b2.dom c e
    · have ei : i = items.length := by omega
      subst ei
      rw [List.drop_length] at hcl
      cases hcl
      rw [List.append_nil] at hsum
      subst hsum
      refine .inl ⟨jt.stop G2 H2 _ x2'.g S2.gl, ?_⟩
      have hDn : H DD = none := by
        cases q : H DD with
        | none => rfl
        | some u => exact absurd hD (x1.dom DD (by rw [q]; simp))
      exact k1 (.ref DD) G2 H2 x2 S2 ⟨DD, accV, rfl, hD2, gD2, hDn, racc⟩
theorem pe_lcA {iter tg elt : Expr} {ifs : List Expr} {scope : Scope} {own : List (Str × Nat)} {p : Pt} {pos : Pos} {fS : En → Dw → Res (List D)} {fT : En → Dw → Res Bool} (hc : X.calm = true) (hN : X.N.Nodup) (hi : PI X tg iter (SI Z Wx G0 E0 fS)) (ok : BlkOk X.N X.env.scope scope own)
    (hg : ∀ (s : Shared) (H : Hp) (C : Addr) (cl : List (Str × Addr)) (fp : List Addr), PG (X.blk s H scope (compEnvC scope cl C X.env) fp) tg (SG Z G0 E0 p)) (ht : ∀ (s : Shared) (H : Hp) (C : Addr) (cl : List (Str × Addr)) (fp : List Addr), PTs (X.blk s H scope (compEnvC scope cl C X.env) fp) ifs (SB Z W0 G0 E0 fT))
    (he : ∀ (s : Shared) (H : Hp) (C : Addr) (cl : List (Str × Addr)) (fp : List Addr), PE (X.blk s H scope (compEnvC scope cl C X.env) fp) elt (SE Z W0 G0 E0 f)) (hs : ∀ x, foldedSetIterable iter X.env x = pure x) (hp : ∀ i ∈ p.slots, i ∈ own.map (·.2)) :
    PE X (.ListComp elt [⟨tg, iter, ifs, 0⟩] scope pos) (SE Z Wx G0 E0 fun ρ w => (fS ρ w).bind fun items w =>
      (compL (lcTurn p (wipeE ρ (own.map (·.2))) fT f) items w).bind fun l w => if items.length ≤ sizeLine then .ok (.n l) w else .bad) :=
  PE.imp (pe_lc hc hN hi ok hg ht he hs) fun σ H Q h => lc_read hp h
end
end VM
set_option Elab.async false
set_option linter.all false
set_option maxRecDepth 100000
/-! VmK: statements. -/
namespace VM
open PySem PySem.Spec L2
section
variable {Z : Zed} {Wx : Value → Option Addr → Hp → Prop} {G0 E0 : Hp}
variable (Z G0 E0) in
def KS (G : Hp) (T : Ends) : En × Fl → Dw → Prop := fun q w' => match q.2 with
  | .nx => ∀ σ' G' H', Sub G G' → Stt Z G0 E0 G' H' σ' q.1 w' → T.nx σ' H'
  | .bk => ∀ σ' G' H', Sub G G' → Stt Z G0 E0 G' H' σ' q.1 w' → T.bk σ' H'
  | .ct => ∀ σ' G' H', Sub G G' → Stt Z G0 E0 G' H' σ' q.1 w' → T.ct σ' H'
  | .rt r => ∀ v σ' G' H', Sub G G' → Stt Z G0 E0 G' H' σ' q.1 w' → RR Z E0 G' H' σ' q.1 v r → T.rt v H'
variable (Z Wx G0 E0) in
def SS (f : En → Dw → Res (En × Fl)) : TS := fun T σ H => ∃ G ρ w, Stt Z G0 E0 G H σ ρ w ∧ Out Z Wx G0 E0 (KS Z G0 E0 G T) (f ρ w)
theorem KS.mono {G G1 : Hp} {T : Ends} {q : En × Fl} {w : Dw} (h : KS Z G0 E0 G T q w) (s : Sub G G1) : KS Z G0 E0 G1 T q w := by
  obtain ⟨ρ, fl⟩ := q
  cases fl with
  | nx => exact fun σ' G' H' s' S' => h σ' G' H' (fun b o e => s' b o (s b o e)) S'
  | bk => exact fun σ' G' H' s' S' => h σ' G' H' (fun b o e => s' b o (s b o e)) S'
  | ct => exact fun σ' G' H' s' S' => h σ' G' H' (fun b o e => s' b o (s b o e)) S'
  | rt r => exact fun v σ' G' H' s' S' => h v σ' G' H' (fun b o e => s' b o (s b o e)) S'
variable {X : Cx} {f g h : En → Dw → Res RV} {F F' : En → Dw → Res (En × Fl)} {st : Stmt} {sts sts' : List Stmt} {pos : Pos}
theorem ss_nil : PSs X [] (SS Z Wx G0 E0 fun ρ w => .ok (ρ, .nx) w) := PSs.imp pss_nil fun T σ H ⟨G, ρ, w, S, k⟩ => k σ G H (fun _ _ h => h) S
theorem ss_cons (h1 : PS X st (SS Z Wx G0 E0 F)) (h2 : PSs X sts (SS Z Wx G0 E0 F')) : PSs X (st :: sts) (SS Z Wx G0 E0 fun ρ w => (F ρ w).bind fun q w => match q.2 with
    | .nx => F' q.1 w
    | f => .ok (q.1, f) w) :=
  PSs.imp (pss_cons h1 h2) fun T σ H ⟨G, ρ, w, S, k⟩ => ⟨G, ρ, w, S, (out_bind.mp k).mono fun q w1 h1 => by
    obtain ⟨ρ1, fl⟩ := q
    cases fl with
    | nx => exact fun σ' G' H' s' S' => ⟨G', ρ1, w1, S', h1.mono fun _ _ z => z.mono s'⟩
    | bk => exact h1
    | ct => exact h1
    | rt r => exact h1⟩
theorem ss_pass : PS X (.Pass pos) (SS Z Wx G0 E0 fun ρ w => .ok (ρ, .nx) w) := PS.imp ps_pass fun T σ H ⟨G, ρ, w, S, k⟩ => k σ G H (fun _ _ h => h) S
theorem ss_break : PS X (.Break pos) (SS Z Wx G0 E0 fun ρ w => .ok (ρ, .bk) w) := PS.imp ps_break fun T σ H ⟨G, ρ, w, S, k⟩ => k σ G H (fun _ _ h => h) S
theorem ss_continue : PS X (.Continue pos) (SS Z Wx G0 E0 fun ρ w => .ok (ρ, .ct) w) := PS.imp ps_continue fun T σ H ⟨G, ρ, w, S, k⟩ => k σ G H (fun _ _ h => h) S
theorem ss_ret {e : Expr} (he : PE X e (SE Z Wx G0 E0 f)) : PS X (.Return (some e) pos) (SS Z Wx G0 E0 fun ρ w => (f ρ w).bind fun r w => .ok (ρ, .rt r) w) :=
  PS.imp (ps_ret he) fun T σ H ⟨G, ρ, w, S, k⟩ => ⟨G, ρ, w, S, (out_bind.mp k).mono fun r w1 h1 v G1 H1 x1 S1 r1 => h1 v σ G1 H1 x1.g S1 (r1.weak S.nx.dom)⟩
theorem ss_retN : PS X (.Return none pos) (SS Z Wx G0 E0 fun ρ w => .ok (ρ, .rt (.v .non)) w) := PS.imp ps_retN fun T σ H ⟨G, ρ, w, S, k⟩ => k .non σ G H (fun _ _ h => h) S .non
theorem ss_if {c : Expr} (hc : PT X c (ST Z Wx G0 E0 h)) (ha : PSs X sts (SS Z Wx G0 E0 F)) (hb : PSs X sts' (SS Z Wx G0 E0 F')) : PS X (.If c sts sts' pos) (SS Z Wx G0 E0 fun ρ w => (h ρ w).bind fun u w => match u.truthy with
    | none => .bad
    | some true => F ρ w
    | some false => F' ρ w) :=
  PS.imp (ps_if hc ha hb) fun T σ H ⟨G, ρ, w, S, k⟩ => ⟨G, ρ, w, S, (out_bind.mp k).mono fun u w1 h1 => by
    cases q : u.truthy with
    | none => rw [q] at h1; exact h1.elim
    | some t =>
      rw [q] at h1
      cases t with
      | true => exact ⟨true, rfl, fun G1 H1 x1 S1 => iteT ⟨G1, ρ, w1, S1, h1.mono fun _ _ z => z.mono x1.g⟩⟩
      | false => exact ⟨false, rfl, fun G1 H1 x1 S1 => iteF ⟨G1, ρ, w1, S1, h1.mono fun _ _ z => z.mono x1.g⟩⟩⟩
theorem swaps_false {e : Expr} {t : Option Expr} {l : Nat} {env : Env} (h : ∀ a b s p, e ≠ .ListComp a b s p) (h2 : ∀ a b s p, e ≠ .SetComp a b s p) (h3 : ∀ a b c s p, e ≠ .DictComp a b c s p) : swapsWith e t l env = pure false := by
  cases e <;> first | rfl | exact absurd rfl (h _ _ _ _) | exact absurd rfl (h2 _ _ _ _) | exact absurd rfl (h3 _ _ _ _ _)
theorem ss_exp {e : Expr} (he : PE X e (SE Z Wx G0 E0 f)) (hs : swapsWith e none pos.line X.env = pure false) : PS X (.Expr e pos) (SS Z Wx G0 E0 fun ρ w => (f ρ w).bind fun _ w => .ok (ρ, .nx) w) :=
  PS.imp (ps_expr he hs) fun T σ H ⟨G, ρ, w, S, k⟩ => ⟨G, ρ, w, S, (out_bind.mp k).mono fun r w1 h1 v G1 H1 x1 S1 r1 => h1 σ G1 H1 x1.g S1⟩
/-! ### loops -/
theorem ss_for {tg iter : Expr} {p : Pt} {fS : En → Dw → Res (List D)} (hp : PassesOwn (model X.prog X.w) X.A X.env X.xe) (hc : X.calm = true) (hi : PI X tg iter (SI Z Wx G0 E0 fS)) (hg : PG X tg (SG Z G0 E0 p)) (hb : PSs X sts (SS Z Wx G0 E0 F))
    (hs : ∀ x, foldedSetIterable iter X.env x = pure x) : PS X (.For tg iter sts [] pos) (SS Z Wx G0 E0 fun ρ w => (fS ρ w).bind fun items w => forL F p items ρ w) :=
  PS.imp (ps_for hp hc hi hg hb hs) fun T σ H ⟨G, ρ, w, S, k⟩ => ⟨G, ρ, w, S, (out_bind.mp k).mono fun items w1 h1 J G1 H1 x1 S1 jt => by
    refine ⟨fun i m σ2 H2 => m = items.length - i ∧ i ≤ items.length ∧ ∃ G2 ρ2 w2, Sub G1 G2 ∧ Stt Z G0 E0 G2 H2 σ2 ρ2 w2 ∧ Out Z Wx G0 E0 (KS Z G0 E0 G2 T) (forL F p (items.drop i) ρ2 w2), ⟨items.length, by simp, Nat.zero_le _, G1, ρ, w1, fun _ _ h => h, S1, h1.mono fun _ _ z => z.mono x1.g⟩, ?_⟩
    rintro i m σ2 H2 ⟨rfl, hi, G2, ρ2, w2, s2, S2, h2⟩
    by_cases hlt : i < items.length
    · refine .inr ⟨jt.go i G2 H2 w2 s2 S2.gl hlt, fun σ' H' => ∃ G2 ρ2 w2, Sub G1 G2 ∧ Stt Z G0 E0 G2 H' σ' ρ2 w2 ∧ Out Z Wx G0 E0 (KS Z G0 E0 G2 T) (forL F p (items.drop (i + 1)) ρ2 w2),
        fun σ' H' ⟨G2, ρ2, w2, s2, S2, h2⟩ => ⟨items.length - (i + 1), by omega, rfl, hlt, G2, ρ2, w2, s2, S2, h2⟩, fun x H3 hy => ?_⟩
      obtain ⟨G3, x3, g3, rx⟩ := jt.yld i G2 H2 H3 w2 x items[i] s2 S2.gl (List.getElem?_eq_getElem hlt) hy
      have S3 := S2.next x3 g3
      rw [drop_cons hlt] at h2
      simp only [forL] at h2
      cases qb : bindP p items[i] ρ2 with
      | none => rw [qb] at h2; exact h2.elim
      | some ρ3 =>
        rw [qb] at h2
        refine ⟨G3, ρ2, w2, items[i], ρ3, S3, rx, qb, fun σ3 S4 _ _ => ⟨G3, ρ3, w2, S4, (out_bind.mp h2).mono fun q w3 h3 => ?_⟩⟩
        obtain ⟨ρ4, fl⟩ := q
        have sx : Sub G1 G3 := fun b o z => x3.g b o (s2 b o z)
        cases fl with
        | nx => exact fun σ' G' H' s' S' => ⟨G', ρ4, w3, fun b o z => s' b o (sx b o z), S', h3.mono fun _ _ z => z.mono fun b o y => s' b o (x3.g b o y)⟩
        | ct => exact fun σ' G' H' s' S' => ⟨G', ρ4, w3, fun b o z => s' b o (sx b o z), S', h3.mono fun _ _ z => z.mono fun b o y => s' b o (x3.g b o y)⟩
        | bk => exact fun σ' G' H' s' S' => h3 σ' G' H' (fun b o y => s' b o (x3.g b o y)) S'
        | rt r => exact fun v σ' G' H' s' S' => h3 v σ' G' H' (fun b o y => s' b o (x3.g b o y)) S'
    · have ei : i = items.length := by omega
      subst ei
      rw [List.drop_length] at h2
      exact .inl ⟨jt.stop G2 H2 w2 s2 S2.gl, h2 σ2 G2 H2 (fun _ _ h => h) S2⟩⟩
end
end VM
set_option Elab.async false
set_option linter.all false
set_option maxRecDepth 100000
/-! VmL: statements that store and change. -/
namespace VM
open PySem PySem.Spec L2
section
variable {Z : Zed} {Wx : Value → Option Addr → Hp → Prop} {G0 E0 : Hp}
theorem ge_none {α : Type} {l : List α} {i : Nat} (h : ¬ i < l.length) : l[i]? = none := List.getElem?_eq_none (by omega)
theorem lt_some {α : Type} {l : List α} {i : Nat} {x : α} (h : l[i]? = some x) : i < l.length := (List.getElem?_eq_some_iff.mp h).1
/-- a slot's own list is another one now -/
theorem Stt.setOwn {G H : Hp} {σ : St} {ρ : En} {w : Dw} (S : Stt Z G0 E0 G H σ ρ w) {i : Nat} {ds es : List D} {p : Addr} {xs ys : List V} (hi : ρ[i]? = some (Sl.own ds)) (hs : σ[i]? = some (some (V.ref p))) (hp : H p = some (.lst xs)) (r : RpL Z G ys es) :
    Stt Z G0 E0 G (upd H p (.lst ys)) σ (ρ.set i (.own es)) w := by
  obtain ⟨p', xs', h1, h2, gp, ep, r'⟩ := S.own i ds hi
  rw [hs] at h1
  cases h1
  have S1 := S.kill i (some (V.ref p))
  have eσ : σ.set i (some (V.ref p)) = σ := by
    apply List.ext_getElem?
    intro j
    by_cases z : i = j
    · subst z
      rw [List.getElem?_set_self (lt_some hs), hs]
    · rw [List.getElem?_set_ne z]
  rw [eσ] at S1
  have S2 := S1.updF (ys := ys) hp gp ep fun j es' e q => by
    have hj : i ≠ j := fun z => by
      subst z
      rw [List.getElem?_set_self (lt_some hi)] at e
      cases e
    rw [List.getElem?_set_ne hj] at e
    exact S.apt i j ds es' p hj hi e hs q
  refine ⟨S2.nx, S2.gl, by rw [List.length_set]; exact S.len, fun j d e => ?_, fun j es' e => ?_, fun j k ds' es' a n e1 e2 e3 => ?_⟩
  · by_cases z : i = j
    · subst z
      rw [List.getElem?_set_self (lt_some hi)] at e
      cases e
    · rw [List.getElem?_set_ne z] at e
      exact S2.val j d (by rw [List.getElem?_set_ne z]; exact e)
  · by_cases z : i = j
    · subst z
      rw [List.getElem?_set_self (lt_some hi)] at e
      cases e
      exact ⟨p, ys, hs, upd_same, gp, ep, r⟩
    · rw [List.getElem?_set_ne z] at e
      exact S2.own j es' (by rw [List.getElem?_set_ne z]; exact e)
  · have old : ∀ {l : Nat} {fs : List D}, (ρ.set i (.own es))[l]? = some (Sl.own fs) → ∃ fs', ρ[l]? = some (Sl.own fs') := fun {l fs} e => by
      by_cases z : i = l
      · subst z
        exact ⟨ds, hi⟩
      · rw [List.getElem?_set_ne z] at e
        exact ⟨fs, e⟩
    obtain ⟨f1, q1⟩ := old e1
    obtain ⟨f2, q2⟩ := old e2
    exact S.apt j k f1 f2 a n q1 q2 e3
/-- a slot gets a list of its own -/
theorem Stt.putOwn {G H : Hp} {σ : St} {ρ : En} {w : Dw} (S : Stt Z G0 E0 G H σ ρ w) {i : Nat} {ds : List D} {p : Addr} {xs : List V} (hp : H p = some (.lst xs)) (gp : G p = none) (ep : E0 p = none) (r : RpL Z G xs ds)
    (no : ∀ (j : Nat) (es : List D), j ≠ i → ρ[j]? = some (Sl.own es) → σ[j]? ≠ some (some (V.ref p))) : Stt Z G0 E0 G H (σ.set i (some (.ref p))) (ρ.set i (.own ds)) w := by
  by_cases hi : i < ρ.length
  case neg =>
    rw [List.set_eq_of_length_le (by rw [S.len]; omega), List.set_eq_of_length_le (by omega)]
    exact S
  have hi' : i < σ.length := by rw [S.len]; exact hi
  refine ⟨S.nx, S.gl, by rw [List.length_set, List.length_set]; exact S.len, fun j d e => ?_, fun j es' e => ?_, fun j k ds' es' a n e1 e2 e3 e4 => ?_⟩
  · by_cases z : i = j
    · subst z
      rw [List.getElem?_set_self hi] at e
      cases e
    · rw [List.getElem?_set_ne z] at e ⊢
      exact S.val j d e
  · by_cases z : i = j
    · subst z
      rw [List.getElem?_set_self hi] at e
      cases e
      exact ⟨p, xs, List.getElem?_set_self hi', hp, gp, ep, r⟩
    · rw [List.getElem?_set_ne z] at e ⊢
      exact S.own j es' e
  · by_cases z : i = j
    · subst z
      rw [List.getElem?_set_self hi'] at e3
      cases e3
      rw [List.getElem?_set_ne n] at e2 e4
      exact no k es' (Ne.symm n) e2 e4
    · by_cases y : i = k
      · subst y
        rw [List.getElem?_set_self hi'] at e4
        cases e4
        rw [List.getElem?_set_ne z] at e1 e3
        exact no j ds' (Ne.symm z) e1 e3
      · rw [List.getElem?_set_ne z] at e1 e3
        rw [List.getElem?_set_ne y] at e2 e4
        exact S.apt j k ds' es' a n e1 e2 e3 e4
/-- a slot's own list is own no more -/
theorem Stt.frz {G H : Hp} {σ : St} {ρ : En} {w : Dw} (S : Stt Z G0 E0 G H σ ρ w) {i : Nat} {ds : List D} (hi : ρ[i]? = some (Sl.own ds)) : ∃ G', Sub G G' ∧ Stt Z G0 E0 G' H σ (ρ.set i (.v (.lst ds))) w := by
  obtain ⟨p, xs, hs, hp, gp, ep, r⟩ := S.own i ds hi
  have s := sub_upd (o := .lst xs) gp
  refine ⟨upd G p (.lst xs), s, S.nx.freeze gp ep, S.gl.freeze hp gp (fun _ z => by cases z) rfl, by rw [List.length_set]; exact S.len, fun j d e => ?_, fun j es e => ?_, fun j k ds' es' a n e1 e2 e3 => ?_⟩
  · by_cases z : i = j
    · subst z
      rw [List.getElem?_set_self (lt_some hi)] at e
      cases e
      exact ⟨_, hs, .lst upd_same (RpL.sub s r)⟩
    · rw [List.getElem?_set_ne z] at e
      obtain ⟨v, h1, h2⟩ := S.val j d e
      exact ⟨v, h1, Rp.sub s h2⟩
  · have z : i ≠ j := fun z => by
      subst z
      rw [List.getElem?_set_self (lt_some hi)] at e
      cases e
    rw [List.getElem?_set_ne z] at e
    obtain ⟨q, ys, h1, h2, h3, h4, h5⟩ := S.own j es e
    have hq : q ≠ p := fun y => by
      subst y
      exact S.apt i j ds es q z hi e hs h1
    exact ⟨q, ys, h1, h2, by rw [upd_ne hq]; exact h3, h4, RpL.sub s h5⟩
  · have no : ∀ {l : Nat} {fs : List D}, (ρ.set i (.v (.lst ds)))[l]? = some (Sl.own fs) → i ≠ l := fun {l fs} e z => by
      subst z
      rw [List.getElem?_set_self (lt_some hi)] at e
      cases e
    have z1 := no e1
    have z2 := no e2
    rw [List.getElem?_set_ne z1] at e1
    rw [List.getElem?_set_ne z2] at e2
    exact S.apt j k ds' es' a n e1 e2 e3
variable {X : Cx} {f g h : En → Dw → Res RV} {F F' : En → Dw → Res (En × Fl)} {st : Stmt} {sts sts' : List Stmt} {pos : Pos}
theorem ss_frz {i : Nat} (hb : PSs X sts (SS Z Wx G0 E0 F)) : PSs X sts (SS Z Wx G0 E0 fun ρ w => (match ρ[i]? with
    | some (.own ds) => Res.ok (ρ.set i (.v (.lst ds)), Fl.nx) w
    | _ => .ok (ρ, .nx) w).bind fun q w => match q.2 with
    | .nx => F q.1 w
    | f => .ok (q.1, f) w) :=
  PSs.imp hb fun T σ H ⟨G, ρ, w, S, k⟩ => by
    have k' := out_bind.mp k
    split at k'
    · rename_i ds e
      obtain ⟨G', s, S'⟩ := S.frz e
      exact ⟨G', _, w, S', Out.mono k' fun _ _ z => z.mono s⟩
    · exact ⟨G, ρ, w, S, k'⟩
/-! ### storing -/
variable (Z G0 E0) in
def SGr (p : Pt) : TG := fun v σ H Q => ∃ G ρ w r ρ1 Hs, Stt Z G0 E0 G H σ ρ w ∧ RR Z Hs G H σ ρ v r ∧ (∀ b, E0 b ≠ none → Hs b ≠ none) ∧ (∀ (j : Nat) (es : List D) (a : Addr), ρ[j]? = some (Sl.own es) → σ[j]? = some (some (V.ref a)) → Hs a ≠ none) ∧ setE p r ρ = some ρ1 ∧ ∀ σ1, Stt Z G0 E0 G H σ1 ρ1 w → Q σ1 H
theorem nm_read {i : Nat} {v : V} {σ : St} {H : Hp} {Q : St → Hp → Prop} (h : SGr Z G0 E0 (.nm i) v σ H Q) : gName i v σ H Q := by
  obtain ⟨G, ρ, w, r, ρ1, Hs, S, rr, hE, hO, e, k⟩ := h
  have none_of : ∀ {a}, Hs a = none → E0 a = none := fun {a} h => by
    cases q : E0 a with
    | none => rfl
    | some o => exact absurd h (hE a (by rw [q]; simp))
  cases r with
  | v d =>
    cases e
    exact k _ (S.setV rr)
  | n ds =>
    cases e
    obtain ⟨a, xs, rfl, h1, h2, h3, h4⟩ := rr
    exact k _ (S.putOwn h1 h2 (none_of h3) h4 fun j es _ e1 e2 => hO j es a e1 e2 h3)
  | m j ds =>
    cases e
    obtain ⟨a, xs, rfl, h1, h2, h3, h4⟩ := rr
    obtain ⟨a', xs', q1, q2, q3, q4, q5⟩ := S.own j ds h2
    rw [h1] at q1
    cases q1
    have S1 := S.kill j (some (V.ref a))
    have eσ : σ.set j (some (V.ref a)) = σ := by
      apply List.ext_getElem?
      intro l
      by_cases z : j = l
      · subst z
        rw [List.getElem?_set_self (lt_some h1), h1]
      · rw [List.getElem?_set_ne z]
    rw [eσ] at S1
    refine k _ (S1.putOwn h3 q3 q4 h4 fun l es _ e1 e2 => ?_)
    have hl : j ≠ l := fun z => by
      subst z
      rw [List.getElem?_set_self (lt_some h2)] at e1
      cases e1
    rw [List.getElem?_set_ne hl] at e1
    exact S.apt j l ds es a hl h2 e1 h1 e2
theorem pg_nmR {i : Nat} {x : Str} {pos : Pos} (hN : X.N.Nodup) (hi : X.N[i]? = some x) (hx : Loc X.env.scope x) (hf : X.fn x = true ∨ X.env.scope.names.lookup x = some .local) : PG X (.Name x pos) (SGr Z G0 E0 (.nm i)) :=
  PG.imp (pg_name hN hi hx hf) fun v σ H Q h => nm_read h
theorem putAll_len : ∀ {is : List Nat} {ds : List D} {ρ ρ1 : En}, putAll is ds ρ = some ρ1 → is.length = ds.length
  | [], [], _, _, _ => rfl
  | [], _ :: _, _, _, e => by cases e
  | _ :: _, [], _, _, e => by cases e
  | i :: is, d :: ds, ρ, ρ1, e => by
    have e : putAll is ds (ρ.set i (.v d)) = some ρ1 := e
    rw [List.length_cons, List.length_cons, putAll_len e]
theorem pg_tpR {is : List Nat} {es : List Expr} {k : Nat} {pos : Pos} (hc : X.calm = true) (hN : X.N.Nodup) (hK : X.K = Z.K) (h : Paired (NmOk X) is es) : PG X (.Tuple es k pos) (SGr Z G0 E0 (.tp is)) := by
  have hl := nms_len h
  have hll : is.length = es.length := Paired.length h
  refine PG.imp (PG.or (pg_tup (n := es.length) hc (pgs_nms hN h) hl.1 hl.2) (pg_lst (n := es.length) hc (pgs_nms hN h) hl.1 hl.2)) fun v σ H Q ⟨G, ρ, w, r, ρ1, Hs, S, rr, hE, hO, e, kk⟩ => ?_
  have lst : ∀ {ds}, r.seq = some (false, ds) → putAll is ds ρ = some ρ1 → (gTup X.K es.length (gNms is) v σ H Q ∨ gLst X.K es.length (gNms is) v σ H Q) := fun {ds} q e => by
    obtain ⟨a, xs, rfl, h1, h2⟩ := rr.seqL S.gl q
    exact .inr ⟨a, xs, rfl, SqL.of h1, by rw [h2.length, ← putAll_len e, hll], gNms_run h S h2 e fun σ1 S1 _ _ => kk σ1 S1⟩
  cases r with
  | v d =>
    cases d with
    | tup ds =>
      have e : putAll is ds ρ = some ρ1 := e
      cases rr with
      | tup h1 h2 => exact .inl ⟨_, _, rfl, by rw [hK]; exact S.gl.sqT h1, by rw [h2.length, ← putAll_len e, hll], gNms_run h S h2 e fun σ1 S1 _ _ => kk σ1 S1⟩
    | lst ds => exact lst rfl e
    | _ => cases e
  | n ds => exact lst rfl e
  | m j ds => exact lst rfl e
theorem set_read {p : Pt} {T : Ends} {σ : St} {H : Hp} (h : SS Z Wx G0 E0 (fun ρ w => (f ρ w).bind fun r w => match setE p r ρ with
    | none => .bad
    | some ρ1 => .ok (ρ1, .nx) w) T σ H) : SE Z Wx G0 E0 f σ H fun x H1 => SGr Z G0 E0 p x σ H1 T.nx := by
  obtain ⟨G, ρ, w, S, k⟩ := h
  refine ⟨G, ρ, w, S, (out_bind.mp k).mono fun r w1 h1 v G1 H1 x1 S1 r1 => ?_⟩
  cases q : setE p r ρ with
  | none => rw [q] at h1; exact h1.elim
  | some ρ1 =>
    rw [q] at h1
    refine ⟨G1, ρ, w1, r, ρ1, H, S1, r1, S.nx.dom, fun j es a e1 e2 => ?_, q, fun σ1 S2 => h1 σ1 G1 H1 x1.g S2⟩
    obtain ⟨b, xs, q1, q2, _⟩ := S.own j es e1
    rw [e2] at q1
    cases q1
    rw [q2]
    simp
theorem ss_set {tg e : Expr} {p : Pt} (he : PE X e (SE Z Wx G0 E0 f)) (hg : PG X tg (SGr Z G0 E0 p)) (hs : swapsWithSole [tg] e pos.line X.env = pure false) (hw : swappedStores [tg] e X.env = pure none)
    (h1 : (assignEach [tg] X.env).map (·.2) = [assign tg X.env]) : PS X (.Assign [tg] e pos) (SS Z Wx G0 E0 fun ρ w => (f ρ w).bind fun r w => match setE p r ρ with
    | none => .bad
    | some ρ1 => .ok (ρ1, .nx) w) :=
  PS.imp (ps_asg he hg hs hw h1) fun T σ H h => set_read h
theorem Stt.frzs {G0 E0 H : Hp} {σ : St} {w : Dw} : ∀ (l : List Nat) {G : Hp} {ρ : En}, Stt Z G0 E0 G H σ ρ w → ∃ G', Sub G G' ∧ Stt Z G0 E0 G' H σ (VM.frzs l ρ) w
  | [], G, ρ, S => ⟨G, fun _ _ h => h, S⟩
  | i :: l, G, ρ, S => by
    unfold VM.frzs
    split
    · rename_i ds e
      obtain ⟨G1, s1, S1⟩ := S.frz e
      obtain ⟨G2, s2, S2⟩ := Stt.frzs l S1
      exact ⟨G2, fun b o h => s2 b o (s1 b o h), S2⟩
    · exact Stt.frzs l S
theorem ss_seti {tg c a b : Expr} {p : Pt} {fa fb : List Nat} {ipos : Pos} (hc : PT X c (ST Z Wx G0 E0 h)) (ha : PE X a (SE Z Wx G0 E0 f)) (hb : PE X b (SE Z Wx G0 E0 g)) (hg : PG X tg (SGr Z G0 E0 p)) (hs : swapsWithSole [tg] (.IfExp c a b ipos) pos.line X.env = pure false) (hw : swappedStores [tg] (.IfExp c a b ipos) X.env = pure none)
    (h1 : (assignEach [tg] X.env).map (·.2) = [assign tg X.env]) : PS X (.Assign [tg] (.IfExp c a b ipos) pos) (SS Z Wx G0 E0 fun ρ w => (h ρ w).bind fun u w => match u.truthy with
    | none => .bad
    | some true => (f (VM.frzs fa ρ) w).bind fun r w => (match setE p r (VM.frzs fa ρ) with
      | none => .bad
      | some ρ1 => .ok (ρ1, .nx) w)
    | some false => (g (VM.frzs fb ρ) w).bind fun r w => (match setE p r (VM.frzs fb ρ) with
      | none => .bad
      | some ρ1 => .ok (ρ1, .nx) w)) := by
  refine PS.imp (ps_asg (pe_ifExp hc ha hb) hg hs hw h1) fun T σ H ⟨G, ρ, w, S, k⟩ => ⟨G, ρ, w, S, (out_bind.mp k).mono fun u w1 k1 => ?_⟩
  cases q : u.truthy with
  | none => rw [q] at k1; exact k1.elim
  | some t =>
    rw [q] at k1
    cases t with
    | true =>
      refine ⟨true, rfl, fun G1 H1 x1 S1 => iteT ?_⟩
      obtain ⟨G2, s2, S2⟩ := S1.frzs fa
      exact set_read ⟨G2, _, w1, S2, Out.mono k1 fun _ _ z => z.mono fun b o e => s2 b o (x1.g b o e)⟩
    | false =>
      refine ⟨false, rfl, fun G1 H1 x1 S1 => iteF ?_⟩
      obtain ⟨G2, s2, S2⟩ := S1.frzs fb
      exact set_read ⟨G2, _, w1, S2, Out.mono k1 fun _ _ z => z.mono fun b o e => s2 b o (x1.g b o e)⟩
end
end VM
set_option Elab.async false
set_option linter.all false
set_option maxRecDepth 100000
/-! VmM: statements that change a list of one's own; while. -/
namespace VM
open PySem PySem.Spec L2
section
variable {Z : Zed} {Wx : Value → Option Addr → Hp → Prop} {G0 E0 : Hp}
variable {X : Cx} {f g h : En → Dw → Res RV} {F F' : En → Dw → Res (En × Fl)} {st : Stmt} {sts sts' : List Stmt} {pos : Pos}
/-- what is known of a plain name -/
structure NmX (X : Cx) (i : Nat) (x : Str) : Prop where
  hx : X.N[i]? = some x
  hv : Vis X.env.scope x
  hd : (x == ("__debug__" : Str)) = false
  hcd : (x == ("__classdict__" : Str)) = false
theorem NmX.pe {i : Nat} {x : Str} {p1 : Pos} (n : NmX X i x) : PE X (.Name x p1) (tVar i) := pe_var n.hx n.hv n.hd n.hcd
theorem Stt.ownAt {G H : Hp} {σ : St} {ρ : En} {w : Dw} (S : Stt Z G0 E0 G H σ ρ w) {i : Nat} {ds : List D} (hi : ρ[i]? = some (Sl.own ds)) : ∃ p xs, σ[i]? = some (some (V.ref p)) ∧ H p = some (.lst xs) ∧ RpL Z G xs ds := by
  obtain ⟨p, xs, h1, h2, _, _, h5⟩ := S.own i ds hi
  exact ⟨p, xs, h1, h2, h5⟩
theorem Stt.ownIs {G H : Hp} {σ : St} {ρ : En} {w : Dw} (S : Stt Z G0 E0 G H σ ρ w) {i : Nat} {ds : List D} {p : Addr} (hi : ρ[i]? = some (Sl.own ds)) (hs : σ[i]? = some (some (V.ref p))) : ∃ xs, H p = some (.lst xs) ∧ RpL Z G xs ds := by
  obtain ⟨q, xs, h1, h2, h3⟩ := S.ownAt hi
  rw [hs] at h1
  cases h1
  exact ⟨xs, h2, h3⟩
theorem ss_app {i : Nat} {x : Str} {p1 apos cpos : Pos} {e : Expr} (n : NmX X i x) (he : PE X e (SE Z Wx G0 E0 f)) (hns : ∀ y p, e ≠ .Starred y p) (hline : (apos.endLine == cpos.line) = true) :
    PS X (.Expr (.Call (.Attribute (.Name x p1) "append" apos) [e] [] cpos) pos) (SS Z Wx G0 E0 fun ρ w => match ρ[i]? with
    | some (.own ds) => (f ρ w).bind fun r w => (match r.toD with
      | some d => if ds.length < sizeLine then .ok (ρ.set i (.own (ds ++ [d])), .nx) w else .bad
      | none => .bad)
    | _ => .bad) := by
  have hs := starEach_cons (es := []) (env := X.env) hns
  refine PS.imp (ps_expr (pe_bm PySem.F.plainAttrs_list PySem.F.slot_list_append PySem.F.type_list_append mt_append (n.pe (p1 := p1)) (pa_cons he pa_nil hs) rfl (by rw [hs]; rfl) hline hs rfl) rfl) fun T σ H ⟨G, ρ, w, S, k⟩ => ?_
  cases qi : ρ[i]? with
  | none => simp only [qi] at k; exact k.elim
  | some s =>
    cases s with
    | no => simp only [qi] at k; exact k.elim
    | v d => simp only [qi] at k; exact k.elim
    | own ds =>
      simp only [qi] at k
      obtain ⟨p, xs, hs1, hp1, r1⟩ := S.ownAt qi
      refine ⟨_, hs1, .inl ⟨rfl, xs, SqL.of hp1⟩, G, ρ, w, S, (out_bind.mp k).mono fun r w1 h1 v G1 H1 x1 S1 rr => ?_⟩
      cases qd : r.toD with
      | none => rw [qd] at h1; exact h1.elim
      | some d =>
        rw [qd] at h1
        have h1 : Out Z Wx G0 E0 (KS Z G0 E0 G T) (if ds.length < sizeLine then .ok (ρ.set i (.own (ds ++ [d])), .nx) w1 else .bad) := h1
        split at h1
        · rename_i hz
          obtain ⟨G2, s2, x2, S2, r2, _⟩ := RR.data S x1 S1 rr qd
          obtain ⟨xs2, hp2, r3⟩ := S2.ownIs qi hs1
          exact ⟨p, xs2, v, rfl, rfl, hp2, by rw [r3.length]; exact hz, h1 σ G2 _ x2.g (S2.setOwn qi hs1 hp2 (r3.append (.cons r2 .nil)))⟩
        · exact h1.elim
theorem ss_ext {i : Nat} {x : Str} {p1 apos cpos : Pos} {e : Expr} (n : NmX X i x) (he : PE X e (SE Z Wx G0 E0 f)) (hns : ∀ y p, e ≠ .Starred y p) (hline : (apos.endLine == cpos.line) = true) :
    PS X (.Expr (.Call (.Attribute (.Name x p1) "extend" apos) [e] [] cpos) pos) (SS Z Wx G0 E0 fun ρ w => match ρ[i]? with
    | some (.own ds) => (f ρ w).bind fun r w => (match r.seq with
      | some (false, es) => if ds.length + es.length ≤ sizeLine then .ok (ρ.set i (.own (ds ++ es)), .nx) w else .bad
      | _ => .bad)
    | _ => .bad) := by
  have hs := starEach_cons (es := []) (env := X.env) hns
  refine PS.imp (ps_expr (pe_bm PySem.F.plainAttrs_list PySem.F.slot_list_extend PySem.F.type_list_extend mt_extend (n.pe (p1 := p1)) (pa_cons he pa_nil hs) rfl (by rw [hs]; rfl) hline hs rfl) rfl) fun T σ H ⟨G, ρ, w, S, k⟩ => ?_
  cases qi : ρ[i]? with
  | none => simp only [qi] at k; exact k.elim
  | some s =>
    cases s with
    | no => simp only [qi] at k; exact k.elim
    | v d => simp only [qi] at k; exact k.elim
    | own ds =>
      simp only [qi] at k
      obtain ⟨p, xs, hs1, hp1, r1⟩ := S.ownAt qi
      refine ⟨_, hs1, .inl ⟨rfl, xs, SqL.of hp1⟩, G, ρ, w, S, (out_bind.mp k).mono fun r w1 h1 v G1 H1 x1 S1 rr => ?_⟩
      split at h1
      · rename_i es qs
        split at h1
        · rename_i hz
          obtain ⟨q, zs, rfl, hq, r2⟩ := rr.seqL S1.gl qs
          obtain ⟨xs2, hp2, r3⟩ := S1.ownIs qi hs1
          exact ⟨p, q, xs2, zs, rfl, rfl, hp2, hq, by rw [r3.length, r2.length]; exact hz, h1 σ G1 _ x1.g (S1.setOwn qi hs1 hp2 (r3.append r2))⟩
        · exact h1.elim
      · exact h1.elim
theorem ss_clr {i : Nat} {x : Str} {p1 apos cpos : Pos} (n : NmX X i x) (hline : (apos.endLine == cpos.line) = true) :
    PS X (.Expr (.Call (.Attribute (.Name x p1) "clear" apos) [] [] cpos) pos) (SS Z Wx G0 E0 fun ρ w => match ρ[i]? with
    | some (.own _) => .ok (ρ.set i (.own []), .nx) w
    | _ => .bad) := by
  refine PS.imp (ps_expr (pe_bm0 PySem.F.plainAttrs_list PySem.F.slot_list_clear PySem.F.type_list_clear mt_clear (n.pe (p1 := p1)) rfl hline) rfl) fun T σ H ⟨G, ρ, w, S, k⟩ => ?_
  cases qi : ρ[i]? with
  | none => simp only [qi] at k; exact k.elim
  | some s =>
    cases s with
    | no => simp only [qi] at k; exact k.elim
    | v d => simp only [qi] at k; exact k.elim
    | own ds =>
      simp only [qi] at k
      obtain ⟨p, xs, hs1, hp1, r1⟩ := S.ownAt qi
      exact ⟨_, hs1, .inl ⟨rfl, xs, SqL.of hp1⟩, p, xs, rfl, rfl, hp1, k σ G _ (fun _ _ h => h) (S.setOwn qi hs1 hp1 .nil)⟩
theorem assignEach_sub {o i : Expr} {p : Pos} {env : Env} : (assignEach [.Subscript o i p] env).map (·.2) = [assign (.Subscript o i p) env] := rfl
theorem ss_setx {i : Nat} {x : Str} {p1 spos : Pos} {e ix : Expr} (n : NmX X i x) (he : PE X e (SE Z Wx G0 E0 f)) (hi : PE X ix (SE Z Wx G0 E0 g)) (hs : swapsWithSole [.Subscript (.Name x p1) ix spos] e pos.line X.env = pure false) (hw : swappedStores [.Subscript (.Name x p1) ix spos] e X.env = pure none)
    (ha : ∀ v, assign (.Subscript (.Name x p1) ix spos) X.env v = (do
      let ov ← holding [v] (eval (.Name x p1) X.env)
      let iv ← holding [v, ov] (eval ix X.env)
      standAt spos
      holding [v, ov, iv] (setItem ov iv v)
      release [v, ov, iv] [])) :
    PS X (.Assign [.Subscript (.Name x p1) ix spos] e pos) (SS Z Wx G0 E0 fun ρ w => (f ρ w).bind fun r w => match ρ[i]? with
    | some (.own ds) => (g ρ w).bind fun j w => (match r.toD, j with
      | some d, .v (.int k) => (match L2.ixN ds.length k with
        | some n => .ok (ρ.set i (.own (ds.set n d)), .nx) w
        | none => .bad)
      | _, _ => .bad)
    | _ => .bad) := by
  refine PS.imp (ps_asg he (pg_sub (n.pe (p1 := p1)) hi set_list ha) hs hw assignEach_sub) fun T σ H ⟨G, ρ, w, S, k⟩ => ⟨G, ρ, w, S, (out_bind.mp k).mono fun r w1 h1 v G1 H1 x1 S1 rr => ?_⟩
  split at h1
  · rename_i ds qi
    obtain ⟨p, xs, hs1, hp1, r1⟩ := S1.ownAt qi
    -- the value is frozen first
    cases qd : r.toD with
    | none =>
      cases qg : g ρ w1 with
      | ok j w2 => rw [qg, Res.bind_ok, qd] at h1; exact h1.elim
      | exc er w2 => rw [qg] at h1; exact ⟨_, hs1, G1, ρ, w1, S1, by rw [qg]; exact h1⟩
      | bad => rw [qg] at h1; exact h1.elim
    | some d =>
      obtain ⟨G2, s2, x2, S2, r2, _⟩ := RR.data S x1 S1 rr qd
      refine ⟨_, hs1, G2, ρ, w1, S2, (out_bind.mp h1).mono fun j w2 h2 iv G3 H3 x3 S3 r3 => ?_⟩
      rw [qd] at h2
      split at h2
      · rename_i d' kk e1
        cases e1
        split at h2
        · rename_i m hm
          cases r3
          obtain ⟨xs3, hp3, r4⟩ := S3.ownIs qi hs1
          exact ⟨p, xs3, _, m, rfl, rfl, hp3, by rw [r4.length]; exact hm, h2 σ G3 _ (fun b o z => x3.g b o (x2.g b o z)) (S3.setOwn qi hs1 hp3 (r4.set (Rp.sub x3.g r2) m))⟩
        · exact h2.elim
      · exact h2.elim
  · exact h1.elim
theorem pget_list : PGet X (fun o i H Q => ∃ p xs k v, o = .ref p ∧ i = .int k ∧ SqL X.K H p xs ∧ atI xs k = some v ∧ Q v H) := by
  intro pins s σ H o i ov iv Q I ro ri h
  obtain ⟨p, xs, k, z, rfl, rfl, hq, he, q⟩ := h
  cases ro
  obtain ⟨t, rfl⟩ := ri
  obtain ⟨its, r, pl, hz⟩ := I.list hq
  obtain ⟨j, h1, h2, h3, h4, h5⟩ := atI_get he
  obtain ⟨w, ew, rw'⟩ := r.get h2
  have hl := r.length
  have hn := line63
  have fin : EP X pins σ Q w s := ⟨z, H, I, rw', q⟩
  by_cases h0 : 0 ≤ k
  · have hj : k.toNat = j := by
      rw [seqIndex_of h0 h5] at h1
      exact Option.some.inj h1
    exact wpAny_getItem_list pl.isList h0 (by omega) (by rw [hj]; simpa using ew) fin
  · have hj : (k + (its.toArray.size : Int)).toNat = j := by
      rw [seqIndex_neg (by omega) h4] at h1
      rw [List.size_toArray, ← hl]
      exact Option.some.inj h1
    exact wpAny_getItem_list_neg pl.isList (by omega) (by rw [List.size_toArray] <;> omega) (by omega) (by rw [hj]; simpa using ew) fin
def augOk : BOp → Bool
  | .add | .sub | .mul | .fdiv => true
  | _ => false
def ipA : BOp → TIp
  | .sub => ipI fun i j => i - j
  | .mul => rI CMul fun i j => .int (i * j)
  | .fdiv => rI CDiv fun i j => .int (i / j)
  | _ => ipI fun i j => i + j
theorem ip_A {o : BOp} (ho : augOk o = true) : PIp X (bopA o) (ipA o) := by
  cases o with
  | add => exact ip_add
  | sub => exact ip_sub
  | mul => exact iop_mul
  | fdiv => exact iop_fdiv
  | mod => cases ho
  | pow => cases ho
theorem ipA_run {o : BOp} {x : Int} {r : RV} {d : D} {G H Hs : Hp} {σ : St} {ρ : En} {v : V} {Q : VK} (h : augI o x r = some d) (rr : RR Z Hs G H σ ρ v r) (q : ∀ z, Rp Z G z d → Q z H) : ipA o (.int x) v H Q := by
  unfold augI at h
  split at h
  · cases h
    cases rr
    exact ⟨x, _, rfl, rfl, q _ (.int _)⟩
  · cases h
    cases rr
    exact ⟨x, _, rfl, rfl, q _ (.int _)⟩
  · split at h
    · rename_i hs
      cases h
      cases rr
      refine ⟨x, _, rfl, rfl, ?_, q _ (.int _)⟩
      rw [Bool.or_eq_true] at hs
      rcases hs with hs | hs
      · exact .inl (small_of hs)
      · exact .inr (small_of hs)
    · cases h
  · split at h
    · rename_i hs
      cases h
      cases rr
      simp only [Bool.and_eq_true, decide_eq_true_eq] at hs
      exact ⟨x, _, rfl, rfl, by first | exact hs | (unfold CDiv; omega) | (constructor <;> omega), q _ (.int _)⟩
    · cases h
  · cases h
theorem ss_aug {i : Nat} {x : Str} {p1 : Pos} {e : Expr} {o : BOp} (hN : X.N.Nodup) (hi : X.N[i]? = some x) (hx : Loc X.env.scope x) (hf : X.fn x = true ∨ X.env.scope.names.lookup x = some .local) (he : PE X e (SE Z Wx G0 E0 f)) (ho : augOk o = true) :
    PS X (.AugAssign (.Name x p1) (bopA o) e pos) (SS Z Wx G0 E0 fun ρ w => match ρ[i]? with
    | some (.v (.int x)) => (f ρ w).bind fun r w => .opt ((augI o x r).map fun d => (ρ.set i (.v d), .nx)) w
    | _ => .bad) := by
  refine PS.imp (ps_aug hN hi hx he (ip_A ho) hf) fun T σ H ⟨G, ρ, w, S, k⟩ => ?_
  simp only at k
  split at k
  · rename_i z qi
    obtain ⟨v, hs1, rv⟩ := S.val i _ qi
    cases rv
    refine ⟨_, hs1, G, ρ, w, S, (out_bind.mp k).mono fun r w1 h1 v1 G1 H1 x1 S1 rr => ?_⟩
    obtain ⟨q, e1, k1⟩ := out_opt.mp h1
    cases qa : augI o z r with
    | none => rw [qa] at e1; cases e1
    | some d =>
      rw [qa] at e1
      cases e1
      exact ipA_run qa rr fun u ru => k1 _ G1 H1 x1.g (S1.setV ru)
  · exact k.elim
theorem ss_augx {i : Nat} {x : Str} {p1 tpos : Pos} {e ix : Expr} {o : BOp} (hK : X.K = Z.K) (n : NmX X i x) (hi : PE X ix (SE Z Wx G0 E0 g)) (he : PE X e (SE Z Wx G0 E0 f)) (ho : augOk o = true)
    (ha : ∀ ov iv new, augStore ix ov iv new = (do holding [new, ov, iv] (setItem ov iv new); release [new, ov, iv] []; pure .next)) :
    PS X (.AugAssign (.Subscript (.Name x p1) ix tpos) (bopA o) e pos) (SS Z Wx G0 E0 fun ρ w => match ρ[i]? with
    | some (.own ds) => (g ρ w).bind fun j w => (match j with
      | .v (.int k) => (match L2.ixN ds.length k with
        | some n => (match ds[n]? with
          | some (.int x) => (f ρ w).bind fun r w => .opt ((augI o x r).map fun d => (ρ.set i (.own (ds.set n d)), .nx)) w
          | _ => .bad)
        | none => .bad)
      | _ => .bad)
    | _ => .bad) := by
  refine PS.imp (ps_augS (n.pe (p1 := p1)) hi pget_list he (ip_A ho) set_list ha) fun T σ H ⟨G, ρ, w, S, k⟩ => ?_
  simp only at k
  split at k
  · rename_i ds qi
    obtain ⟨p, xs, hs1, hp1, r1⟩ := S.ownAt qi
    refine ⟨_, hs1, G, ρ, w, S, (out_bind.mp k).mono fun j w1 h1 v G1 H1 x1 S1 rr => ?_⟩
    split at h1
    · rename_i kk
      split at h1
      · rename_i m hm
        split at h1
        · rename_i z hz
          cases rr
          obtain ⟨xs1, hp2, r2⟩ := S1.ownIs qi hs1
          obtain ⟨xv, hxv, rxv⟩ := r2.get hz
          cases rxv
          have hat : atI xs1 kk = some (.int z) := by
            unfold atI
            rw [r2.length, hm]
            exact hxv
          refine ⟨p, xs1, kk, .int z, rfl, rfl, by rw [hK]; exact SqL.of hp2, hat, G1, ρ, w1, S1, (out_bind.mp h1).mono fun r w2 h2 v2 G2 H2 x2 S2 r3 => ?_⟩
          obtain ⟨q, e1, k1⟩ := out_opt.mp h2
          cases qa : augI o z r with
          | none => rw [qa] at e1; cases e1
          | some d =>
            rw [qa] at e1
            cases e1
            refine ipA_run qa r3 fun u ru => ?_
            obtain ⟨xs2, hp3, r4⟩ := S2.ownIs qi hs1
            exact ⟨p, xs2, kk, m, rfl, rfl, hp3, by rw [r4.length]; exact hm, k1 σ G2 _ (fun b o q => x2.g b o (x1.g b o q)) (S2.setOwn qi hs1 hp3 (r4.set ru m))⟩
        · exact h1.elim
      · exact h1.elim
    · exact h1.elim
  · exact k.elim
/-! ### while -/
theorem whlL_mono {test : En → Dw → Res RV} {body : En → Dw → Res (En × Fl)} {n : Nat} {ρ : En} {w : Dw} : whlL test body (n + 1) ρ w = (test ρ w).bind fun u w => match u.truthy with
    | none => .bad
    | some false => .ok (ρ, .nx) w
    | some true => (body ρ w).bind fun q w => match q.2 with
      | .nx | .ct => whlL test body n q.1 w
      | .bk => .ok (q.1, .nx) w
      | .rt v => .ok (q.1, .rt v) w := rfl
theorem ss_whl {c : Expr} {n : Nat} (hp : PassesOwn (model X.prog X.w) X.A X.env X.xe) (hc : PT X c (ST Z Wx G0 E0 h)) (hb : PSs X sts (SS Z Wx G0 E0 F)) : PS X (.While c sts [] pos) (SS Z Wx G0 E0 fun ρ w => whlL h F n ρ w) :=
  PS.imp (ps_while hp hc hb) fun T σ H ⟨G, ρ, w, S, k⟩ => by
    refine ⟨fun m σ2 H2 => ∃ G2 ρ2 w2, Sub G G2 ∧ Stt Z G0 E0 G2 H2 σ2 ρ2 w2 ∧ Out Z Wx G0 E0 (KS Z G0 E0 G2 T) (whlL h F m ρ2 w2), ⟨n, G, ρ, w, fun _ _ h => h, S, k⟩, fun m σ2 H2 ⟨G2, ρ2, w2, s2, S2, k2⟩ => ?_⟩
    cases m with
    | zero => exact k2.elim
    | succ m =>
      rw [whlL_mono] at k2
      refine ⟨G2, ρ2, w2, S2, (out_bind.mp k2).mono fun u w3 h3 => ?_⟩
      cases q : u.truthy with
      | none => rw [q] at h3; exact h3.elim
      | some t =>
        rw [q] at h3
        cases t with
        | false => exact ⟨false, rfl, fun G3 H3 x3 S3 => iteF (h3 σ2 G3 H3 x3.g S3)⟩
        | true =>
          refine ⟨true, rfl, fun G3 H3 x3 S3 => iteT ⟨fun σ' H' => ∃ G2 ρ2 w2, Sub G G2 ∧ Stt Z G0 E0 G2 H' σ' ρ2 w2 ∧ Out Z Wx G0 E0 (KS Z G0 E0 G2 T) (whlL h F m ρ2 w2), fun σ' H' z => ⟨m, Nat.lt_succ_self m, z⟩, G3, ρ2, w3, S3, (out_bind.mp h3).mono fun q w4 h4 => ?_⟩⟩
          have sx : Sub G G3 := fun b o z => x3.g b o (s2 b o z)
          obtain ⟨ρ4, fl⟩ := q
          cases fl with
          | nx => exact fun σ' G' H' s' S' => ⟨G', ρ4, w4, fun b o z => s' b o (sx b o z), S', h4.mono fun _ _ z => z.mono fun b o y => s' b o (x3.g b o y)⟩
          | ct => exact fun σ' G' H' s' S' => ⟨G', ρ4, w4, fun b o z => s' b o (sx b o z), S', h4.mono fun _ _ z => z.mono fun b o y => s' b o (x3.g b o y)⟩
          | bk => exact fun σ' G' H' s' S' => h4 σ' G' H' (fun b o y => s' b o (x3.g b o y)) S'
          | rt r => exact fun v σ' G' H' s' S' => h4 v σ' G' H' (fun b o y => s' b o (x3.g b o y)) S'
end
end VM
set_option Elab.async false
set_option linter.all false
set_option maxRecDepth 100000
/-! VmN: calls of the program's defs; a def by its body. -/
namespace VM
open PySem PySem.Spec L2
/-! ### a def's promise where, perhaps, no repr is under way -/
/-- like FnOk; gu: it asks that no repr is under way -/
structure FnG (gu : Bool) (P : Program) (w : World) (K : PySem.W.Frag) (mg : Str → Option Value) (base : Heap) (CX : CXT) (k : Nat) (f : Addr) (fd : FuncData) (ps : List Str) (sp : Sp) : Prop where
  len : ∀ vs H Q E, sp vs H Q E → vs.length = ps.length
  run : ∀ (A : Around) (outer : List Env) (s : Shared) (H : Hp) (args : Args) (us : List Value) (vs : List V) (Q : VK) (E : XK), Room k A → (gu = true → A.guards = some []) → Env0 P w K mg base A outer s H → BindsTo s fd args (ps.zip us) → Vals vs us → sp vs H Q E →
    codeAny (model P w) A (.call (.ref f) args) (CR CX outer P w H s Q E) s
section
variable {X : Cx} {CX : CXT} {k : Nat} {gu : Bool} {f C : Addr} {fd : FuncData} {ps : List Str} {sp : Sp} {dvs : List V} {ds : List Value} {E : XK} {x m : Str} {p pos apos : Pos} {e o : Expr} {es : List Expr} {ta : TE} {t : TA}
theorem run_fnG {pins : List (Addr × Obj)} {σ : St} {H : Hp} {s : Shared} {Q : VK} {us : List Value} {vs : List V} (F : FnG gu X.prog X.w X.K X.mg X.base CX k f fd ps sp) (hr : Room k X.A) (hgu : gu = true → X.A.guards = some []) (hb : Binds X.K fd ps ds) (hd : Vals dvs ds) (hx : Passes CX X E)
    (I : L2.Inv X pins σ H s) (r : Vals vs us) (h : sp (vs ++ dvs) H Q E) : wpAny (model X.prog X.w) X.A (call (.ref f) us) (EP X pins σ Q) X.xe s := by
  have r2 : Vals (vs ++ dvs) (us ++ ds) := r.append hd
  have hl : (us ++ ds).length = ps.length := by rw [← r2.length]; exact F.len _ _ _ _ h
  refine wpAny_call (codeAny_mono (F.run X.A X.stack s H ⟨us, []⟩ (us ++ ds) (vs ++ dvs) Q E hr hgu I.env0 (hb s us I.kIn hl) r2 h) fun r s' hq => ?_)
  cases r with
  | error e => exact hx pins σ H s e s' I hq
  | ok fl =>
    cases fl with
    | ret u => exact I.after hq
    | _ => exact False.elim hq
theorem pe_callG (F : FnG gu X.prog X.w X.K X.mg X.base CX k f fd ps sp) (hr : Room k X.A) (hgu : gu = true → X.A.guards = some []) (hg : Gl X x) (hm : X.mg x = some (.ref f)) (hk : PySem.W.keepIn X.K (.ref f) = true) (hb : Binds X.K fd ps ds) (hd : Vals dvs ds) (hx : Passes CX X E)
    (ha : PA X (e :: es) t) (hdb : (x == ("__debug__" : Str)) = false) (he : starEach (e :: es) X.env = (false, eval e X.env) :: starEach es X.env) (hpl : (backTo pos (starEach es X.env)).any (·.1) = false) :
    PE X (.Call (.Name x p) (e :: es) [] pos) (tCall sp dvs E t) := by
  refine ⟨fun pins s σ H Q I h => ?_⟩
  refine wpAny_Call_Name_kw (ld_glob I hg hm ?_ hdb)
  refine PySem.W.callWith_K (h₀ := X.base) I.ok.mod.kin hk (thn (ha.run pos pins s σ H _ I h) fun us s1 ⟨vs, H1, I1, r, q⟩ => ⟨I1.kIn, ?_⟩) he hpl
  exact run_fnG F hr hgu hb hd hx I1 r q
theorem pe_call0G (F : FnG gu X.prog X.w X.K X.mg X.base CX k f fd ps sp) (hr : Room k X.A) (hgu : gu = true → X.A.guards = some []) (hg : Gl X x) (hm : X.mg x = some (.ref f)) (hk : PySem.W.keepIn X.K (.ref f) = true) (hb : Binds X.K fd ps ds) (hd : Vals dvs ds) (hx : Passes CX X E)
    (hdb : (x == ("__debug__" : Str)) = false) : PE X (.Call (.Name x p) [] [] pos) (tCall sp dvs E tNil) := by
  refine ⟨fun pins s σ H Q I h => ?_⟩
  refine wpAny_Call_Name_kw (ld_glob I hg hm ?_ hdb)
  exact PySem.W.callWith_K0 I.kIn hk (run_fnG (us := []) F hr hgu hb hd hx I .nil h)
end
/-- a def's promise: it does as the function F -/
def spF (Z : Zed) (n : Nat) (F : List D → Dw → Res RV) : Sp := fun vs H Q E => vs.length = n ∧ ∃ G ds w, Gg Z G H w ∧ RpL Z G vs ds ∧
  Out Z E G H (fun r w' => ∀ v G' H', Nx G H G' H' → Gg Z G' H' w' → RR Z H G' H' [] [] v r → Q v H') (F ds w)
section
variable {Z : Zed} {Wx : Value → Option Addr → Hp → Prop} {G0 E0 : Hp}
theorem RR.nil_any {H0 G H : Hp} {σ : St} {ρ : En} {v : V} {r : RV} (h : RR Z H0 G H [] [] v r) : RR Z H0 G H σ ρ v r := by
  cases r with
  | v d => exact h
  | n ds => exact h
  | m i ds => obtain ⟨a, xs, _, h1, _⟩ := h; cases h1
theorem Out.rebase {α : Type} {K : α → Dw → Prop} {r : Res α} {G1 E1 : Hp} (h : Out Z Wx G0 E0 K r) (x : Nx G0 E0 G1 E1) : Out Z Wx G1 E1 K r := by
  cases r with
  | ok a w => exact h
  | exc e w => exact fun cls d G' H' x' g er => h cls d G' H' (x.trans x') g er
  | bad => exact h
/-- at a call: the promise of the callee -/
theorem call_read {F : List D → Dw → Res RV} {G H G1 H1 : Hp} {σ : St} {ρ : En} {w w1 : Dw} {vs : List V} {rs : List RV} {Q : VK} {n : Nat} {ds : List D} (S : Stt Z G0 E0 G H σ ρ w) (x1 : Nx G H G1 H1) (S1 : Stt Z G0 E0 G1 H1 σ ρ w1) (r1 : RRs Z G1 H1 σ ρ H vs rs) (hn : vs.length = n) (e : rs.mapM RV.toD = some ds)
    (h : Out Z Wx G0 E0 (KE Z G0 E0 G H σ ρ Q) (F ds w1)) : spF Z n F vs H1 Q Wx := by
  obtain ⟨G2, s2, x2, S2, r2⟩ := r1.datas S (fun _ h => h) x1 S1 e
  refine ⟨hn, G2, ds, w1, S2.gl, r2, Out.mono (h.rebase S2.nx) fun r w' k v G' H' x g ro => ?_⟩
  exact k v G' H' (x2.trans x) (S2.next x g) ((ro.weak x2.dom).nil_any)
theorem call_readL {F : List D → Dw → Res RV} {G H G1 H1 : Hp} {σ : St} {ρ : En} {w w1 : Dw} {vs : List V} {Q : VK} {n : Nat} {ds : List D} (S : Stt Z G0 E0 G H σ ρ w) (x1 : Nx G H G1 H1) (S1 : Stt Z G0 E0 G1 H1 σ ρ w1) (r2 : RpL Z G1 vs ds) (hn : vs.length = n)
    (h : Out Z Wx G0 E0 (KE Z G0 E0 G H σ ρ Q) (F ds w1)) : spF Z n F vs H1 Q Wx :=
  ⟨hn, G1, ds, w1, S1.gl, r2, Out.mono (h.rebase S1.nx) fun r w' k v G' H' x g ro => k v G' H' (x1.trans x) (S1.next x g) ((ro.weak x1.dom).nil_any)⟩
/-- values in the parameters' order: np positional ones, nk of keywords -/
def ordL {α : Type} (dflt : α) (np nk : Nat) (ord : List Nat) (us ws : List α) : List α := if us.length = np ∧ ws.length = nk then ord.map fun i => (us ++ ws).getD i dflt else []
/-- how calls with keywords bind: positional ones, the keywords' names, the order -/
abbrev KwT := List (Nat × List Str × List Nat)
def KwOk (fd : FuncData) (ps : List Str) (t : KwT) : Prop := ∀ e ∈ t, ∀ us ws : List Value, us.length = e.1 → ws.length = e.2.1.length → bindArgs fd ⟨us, e.2.1.zip ws⟩ = pure (ps.zip (ordL .none e.1 e.2.1.length e.2.2 us ws))
/-- what is known of a def: it stands at fa, its name, its parameters -/
structure FnI (Z : Zed) (k : Nat) (gu : Bool) (F : List D → Dw → Res RV) (a : Addr) (x : Str) (ps : List Str) (kt : KwT) : Prop where
  ok : ∃ fd, FnG gu Z.P Z.w Z.K Z.mg Z.base (L2.CX Z.P Z.w) k a fd ps (spF Z ps.length F) ∧ Binds Z.K fd ps [] ∧ KwOk fd ps kt
  ar : ∀ ds w, ds.length ≠ ps.length → F ds w = .bad
  mg : Z.mg x = some (.ref a)
  kp : PySem.W.keepIn Z.K (.ref a) = true
/-- what is the same of a frame that runs -/
structure FC (Z : Zed) (k : Nat) (gu : Bool) (Wx : Value → Option Addr → Hp → Prop) (X : Cx) (sc : Scope) (N : List Str) : Prop where
  hP : X.prog = Z.P
  hw : X.w = Z.w
  hK : X.K = Z.K
  hm : X.mg = Z.mg
  hb : X.base = Z.base
  calm : X.calm = true
  hN : X.N = N
  nd : N.Nodup
  hsc : X.env.scope = sc
  tk : Takes X (fun cls d _ H => Wx cls d H)
  room : Room k X.A
  gd : gu = true → X.A.guards = some []
variable {X : Cx} {k : Nat} {gu gf : Bool} {sc : Scope} {N : List Str} {e : Expr} {es : List Expr} {pos p : Pos} {fs gs : En → Dw → Res (List RV)}
theorem FC.passes (c : FC Z k gu Wx X sc N) : Passes (L2.CX X.prog X.w) X Wx := passes_call c.tk fun _ _ _ _ h => h
theorem FnI.run (c : FC Z k gu Wx X sc N) {F : List D → Dw → Res RV} {a : Addr} {x : Str} {ps : List Str} {kt : KwT} (i : FnI Z k gf F a x ps kt) : ∃ fd, FnG gf X.prog X.w X.K X.mg X.base (L2.CX X.prog X.w) k a fd ps (spF Z ps.length F) ∧ Binds X.K fd ps [] ∧ KwOk fd ps kt := by
  obtain ⟨fd, h1, h2⟩ := i.ok
  rw [c.hP, c.hw, c.hK, c.hm, c.hb]
  exact ⟨fd, h1, h2⟩
theorem backTo_plain {es : List Expr} {pos : Pos} {env : Env} (h : ∀ e ∈ es, ∀ x p, e ≠ .Starred x p) : (backTo pos (starEach es env)).any (·.1) = false := by
  induction es with
  | nil => rfl
  | cons e es ih =>
    rw [starEach_cons (h e List.mem_cons_self)]
    show (false || (backTo pos (starEach es env)).any (·.1)) = false
    rw [ih fun e he => h e (List.mem_cons_of_mem _ he)]
    rfl
theorem pe_callF (c : FC Z k gu Wx X sc N) (hgu : gf = true → gu = true) {F : List D → Dw → Res RV} {a : Addr} {x : Str} {ps : List Str} {kt : KwT} (i : FnI Z k gf F a x ps kt) (hg : Gl X x) (ha : PA X (e :: es) (SA Z Wx G0 E0 fs)) (hns : ∀ y ∈ e :: es, ∀ z p, y ≠ .Starred z p) (hl : (e :: es).length = ps.length)
    (hlen : ∀ ρ w rs w', fs ρ w = .ok rs w' → rs.length = (e :: es).length) (hdb : (x == ("__debug__" : Str)) = false) : PE X (.Call (.Name x p) (e :: es) [] pos) (SE Z Wx G0 E0 fun ρ w => (fs ρ w).bind fun rs w => match rs.mapM RV.toD with
    | none => .bad
    | some ds => F ds w) := by
  obtain ⟨fd, h1, h2, _⟩ := i.run c
  refine PE.imp (pe_callG h1 c.room (fun z => c.gd (hgu z)) hg (by rw [c.hm]; exact i.mg) (by rw [c.hK]; exact i.kp) h2 .nil c.passes ha hdb (starEach_cons (hns e List.mem_cons_self)) (backTo_plain fun y hy => hns y (List.mem_cons_of_mem _ hy))) fun σ H Q ⟨G, ρ, w, S, kk⟩ => ?_
  refine ⟨G, ρ, w, S, ?_⟩
  simp only at kk
  cases q : fs ρ w with
  | bad => rw [q] at kk; exact kk.elim
  | exc er w' => rw [q] at kk; exact kk
  | ok rs w1 =>
    rw [q] at kk
    intro vs G1 H1 x1 S1 r1
    have kk : Out Z Wx G0 E0 (KE Z G0 E0 G H σ ρ Q) (match rs.mapM RV.toD with
    | none => .bad
    | some ds => F ds w1) := kk
    cases qd : rs.mapM RV.toD with
    | none => rw [qd] at kk; exact kk.elim
    | some ds =>
      rw [qd] at kk
      have := call_read (n := ps.length) S x1 S1 r1 (by rw [r1.length, hlen ρ w rs w1 q, hl]) qd kk
      rw [List.append_nil]
      exact this
theorem pe_callF0 (c : FC Z k gu Wx X sc N) (hgu : gf = true → gu = true) {F : List D → Dw → Res RV} {a : Addr} {x : Str} {ps : List Str} {kt : KwT} (i : FnI Z k gf F a x ps kt) (hg : Gl X x) (hl : ps = []) (hdb : (x == ("__debug__" : Str)) = false) : PE X (.Call (.Name x p) [] [] pos) (SE Z Wx G0 E0 fun ρ w => F [] w) := by
  obtain ⟨fd, h1, h2, _⟩ := i.run c
  refine PE.imp (pe_call0G h1 c.room (fun z => c.gd (hgu z)) hg (by rw [c.hm]; exact i.mg) (by rw [c.hK]; exact i.kp) h2 .nil c.passes hdb) fun σ H Q ⟨G, ρ, w, S, kk⟩ => ?_
  exact call_readL (n := ps.length) S (Nx.refl G H) S .nil (by rw [hl]; rfl) kk
/-! ### a def by its body -/
theorem start_get {N : List Str} {vs : List V} {i : Nat} (h : i < vs.length) : (L2.start N vs)[i]? = some (vs[i]?) := by
  unfold L2.start
  rw [List.getElem?_append_left (by rw [List.length_map]; exact h), List.getElem?_map, List.getElem?_eq_getElem h]
  rfl
theorem stt_start {G H : Hp} {w : Dw} {N : List Str} {vs : List V} {ds : List D} {m : Nat} (g : Gg Z G H w) (r : RpL Z G vs ds) (hm : m = N.length) (hl : vs.length ≤ m) : Stt Z G H G H (L2.start N vs) (ds.map .v ++ List.replicate (m - ds.length) .no) w where
  nx := Nx.refl G H
  gl := g
  len := by
    unfold L2.start
    rw [List.length_append, List.length_append, List.length_map, List.length_map, List.length_replicate, List.length_replicate, r.length, hm]
  val := fun i d e => by
    by_cases h : i < ds.length
    · rw [List.getElem?_append_left (by rw [List.length_map]; exact h), List.getElem?_map, List.getElem?_eq_getElem h] at e
      cases e
      obtain ⟨x, h1, h2⟩ := r.get (List.getElem?_eq_getElem h)
      refine ⟨x, ?_, h2⟩
      rw [start_get (by rw [r.length]; exact h), h1]
    · rw [List.getElem?_append_right (by rw [List.length_map]; omega), List.getElem?_replicate] at e
      split at e <;> cases e
  own := fun i es e => by
    by_cases h : i < ds.length
    · rw [List.getElem?_append_left (by rw [List.length_map]; exact h), List.getElem?_map, List.getElem?_eq_getElem h] at e
      cases e
    · rw [List.getElem?_append_right (by rw [List.length_map]; omega), List.getElem?_replicate] at e
      split at e <;> cases e
  apt := fun i j es es' a n e => by
    exfalso
    by_cases h : i < ds.length
    · rw [List.getElem?_append_left (by rw [List.length_map]; exact h), List.getElem?_map, List.getElem?_eq_getElem h] at e
      cases e
    · rw [List.getElem?_append_right (by rw [List.length_map]; omega), List.getElem?_replicate] at e
      split at e <;> cases e
/-- what a body's end gives the caller -/
theorem body_end {G H : Hp} {w : Dw} {Q : VK} {E : Value → Option Addr → Hp → Prop} {r : Res (En × Fl)} (h : Out Z E G H (fun r w' => ∀ v G' H', Nx G H G' H' → Gg Z G' H' w' → RR Z H G' H' [] [] v r → Q v H') (r.bind outR)) : Out Z E G H (KS Z G H G { nx := fun _ H' => Q .non H', rt := Q }) r := by
  refine (out_bind.mp h).mono fun q w' k => ?_
  obtain ⟨ρ, fl⟩ := q
  cases fl with
  | nx => exact fun σ' G' H' s S => k .non G' H' S.nx S.gl .non
  | bk => exact k.elim
  | ct => exact k.elim
  | rt r =>
    intro v σ' G' H' s S rr
    cases r with
    | v d => exact k v G' H' S.nx S.gl rr
    | n ds => exact k v G' H' S.nx S.gl rr
    | m i ds =>
      obtain ⟨a, xs, e, h1, h2, h3, h4⟩ := rr
      obtain ⟨a', xs', q1, q2, q3, q4, q5⟩ := S.own i ds h2
      rw [h1] at q1
      cases q1
      exact k v G' H' S.nx S.gl ⟨a, xs, e, h3, q3, q4, h4⟩
end
end VM
set_option Elab.async false
set_option linter.all false
set_option maxRecDepth 100000
/-! VmP: built-in functions. -/
namespace VM
open PySem PySem.Spec L2
section
variable {Z : Zed} {Wx : Value → Option Addr → Hp → Prop} {G0 E0 : Hp}
theorem RRs.one {H0 G H : Hp} {σ : St} {ρ : En} {vs : List V} {a : RV} (h : RRs Z G H σ ρ H0 vs [a]) : ∃ v, vs = [v] ∧ RR Z H0 G H σ ρ v a := by
  cases h with
  | cons r _ _ t => cases t; exact ⟨_, rfl, r⟩
theorem RRs.two {H0 G H : Hp} {σ : St} {ρ : En} {vs : List V} {a b : RV} (h : RRs Z G H σ ρ H0 vs [a, b]) : ∃ v u H1, vs = [v, u] ∧ RR Z H0 G H σ ρ v a ∧ RR Z H1 G H σ ρ u b := by
  cases h with
  | cons r _ _ t =>
    cases t with
    | cons r2 _ _ t => cases t; exact ⟨_, _, _, rfl, r, r2⟩
/-- a reading of a built-in is one of the code's -/
def BiR (Z : Zed) (G0 E0 : Hp) (f : List RV → Option RV) (r : List V → Hp → VK → Prop) : Prop :=
  ∀ {G H Ha : Hp} {σ : St} {ρ : En} {w : Dw} {rs : List RV} {c : RV} {vs : List V} {Q : VK}, Stt Z G0 E0 G H σ ρ w → RRs Z G H σ ρ Ha vs rs → f rs = some c → KE Z G0 E0 G H σ ρ Q c w → r vs H Q
variable {X : Cx} {x : Str} {p pos : Pos} {e : Expr} {es : List Expr} {fs : En → Dw → Res (List RV)} {f : List RV → Option RV} {r : List V → Hp → VK → Prop}
theorem se_bi (hr : BiR Z G0 E0 f r) {σ : St} {H : Hp} {Q : VK} (h : SE Z Wx G0 E0 (fun ρ w => (fs ρ w).bind fun rs w => .opt (f rs) w) σ H Q) : tCB r (SA Z Wx G0 E0 fs) σ H Q := by
  obtain ⟨G, ρ, w, S, h⟩ := h
  refine ⟨G, ρ, w, S, (out_bind.mp h).mono fun rs w1 h1 vs G1 H1 x1 S1 r1 => ?_⟩
  obtain ⟨c, e, k⟩ := out_opt.mp h1
  exact hr S1 r1 e (KE.trans x1 k)
theorem plain2 {e : Expr} {es : List Expr} {env : Env} (h : ∀ y ∈ e :: es, ∀ z p, y ≠ .Starred z p) : starEach (e :: es) env = (false, eval e env) :: starEach es env ∧ (backTo pos (starEach es env)).any (·.1) = false :=
  ⟨starEach_cons (h e List.mem_cons_self), backTo_plain fun y hy => h y (List.mem_cons_of_mem _ hy)⟩
theorem pe_biB {id : String} (hr : BiR Z G0 E0 f r) (hc : CallR X (.builtin id) r) (hg : Gl X x) (hm : X.mg x = none) (hv : bootBuiltins x = some (.builtin id)) (ha : PA X (e :: es) (SA Z Wx G0 E0 fs)) (hn : x ≠ "__name__") (hdb : (x == ("__debug__" : Str)) = false) (hp : ∀ y ∈ e :: es, ∀ z p, y ≠ .Starred z p) :
    PE X (.Call (.Name x p) (e :: es) [] pos) (SE Z Wx G0 E0 fun ρ w => (fs ρ w).bind fun rs w => .opt (f rs) w) :=
  PE.imp (pe_callB hc hg hm hv ha hn hdb (plain2 (pos := pos) hp).1 (plain2 hp).2) fun _ _ _ => se_bi hr
theorem pe_biT {T : String} (hr : BiR Z G0 E0 f r) (hc : CallR X (.type T) r) (hg : Gl X x) (hm : X.mg x = none) (hv : bootBuiltins x = some (.type T)) (ha : PA X (e :: es) (SA Z Wx G0 E0 fs)) (hn : x ≠ "__name__") (hdb : (x == ("__debug__" : Str)) = false) (hp : ∀ y ∈ e :: es, ∀ z p, y ≠ .Starred z p) :
    PE X (.Call (.Name x p) (e :: es) [] pos) (SE Z Wx G0 E0 fun ρ w => (fs ρ w).bind fun rs w => .opt (f rs) w) :=
  PE.imp (pe_callTy hc hg hm hv ha hn hdb (plain2 (pos := pos) hp).1 (plain2 hp).2) fun _ _ _ => se_bi hr

/-! ### len -/
def rLen (K : PySem.W.Frag) : List V → Hp → VK → Prop := fun xs H Q => (∃ p ys, xs = [.ref p] ∧ (SqL K H p ys ∨ SqT K H p ys) ∧ Q (.int ys.length) H) ∨ ∃ z, xs = [.str z] ∧ z.length ≤ sizeLine ∧ Q (.int z.length) H
theorem cr_len : CallR X (.builtin "len") (rLen X.K) := CallR.or call_len_seq call_len_str
theorem bi_len : BiR Z G0 E0 (bi .len) (rLen Z.K) := by
  intro G H Ha σ ρ w rs c vs Q S r e k
  unfold bi at e
  split at e <;> try (cases ‹Bi.len = _›)
  · obtain ⟨v, rfl, r1⟩ := r.one
    split at e
    · rename_i hz
      cases e
      cases r1
      exact .inr ⟨_, rfl, hz, k.here S (.int _)⟩
    · cases e
  · obtain ⟨v, rfl, r1⟩ := r.one
    cases e
    cases r1 with
    | scr h1 h2 =>
      refine .inl ⟨_, _, rfl, .inl (S.gl.sqL h1), ?_⟩
      rw [h2.length]
      exact k.here S (.int _)
  · obtain ⟨v, rfl, r1⟩ := r.one
    rename_i a _ _
    cases q : a.seq with
    | none => rw [q] at e; cases e
    | some kd =>
      obtain ⟨b, ds⟩ := kd
      rw [q] at e
      cases e
      obtain ⟨p, xs, rfl, h1, h2⟩ := r1.seqA S.gl q
      refine .inl ⟨_, _, rfl, h1, ?_⟩
      rw [h2.length]
      exact k.here S (.int _)
  · cases e
end
end VM
namespace VM
open PySem PySem.Spec L2
section
open PySem.W PyProof.Rows PySem.Calls
theorem each_ints : ∀ {vs : List Value} {ns : List Int}, IntsAre vs ns → EachIs (fun v n => ∃ t, v = Value.int n t) vs ns
  | _, _, .nil => .nil
  | _, _, .cons n t h => .cons ⟨t, rfl⟩ (each_ints h)
theorem ints_each : ∀ {vs : List Value} {ns : List Int}, EachIs (fun v n => ∃ t, v = Value.int n t) vs ns → IntsAre vs ns
  | _, _, .nil => .nil
  | _, _, .cons ⟨t, e⟩ h => by subst e; exact .cons _ t (ints_each h)
theorem each_reads {h : Heap} {vs : List Value} {ns : List Int} (e : EachIs (fun v n => ∃ t, v = Value.int n t) vs ns) : EachIs (fun v n => ∃ as, Reads h v (.int n) as) vs ns :=
  e.mono fun _ _ ⟨t, q⟩ => by subst q; exact ⟨[], .int _ _⟩
variable {prog : Program} {w : World} {A : Around} {E : Value → Shared → Prop} {s : Shared}
theorem sorted_seq {l : Addr} {T : String} {o : Obj} {vs : List Value} {n : Nat} {ns : List Int} {Q : Value → Shared → Prop} (hT : T = "list" ∨ T = "tuple") (ho : s.heap.get? l = some o) (hc : o.cls = .type T) (hd : o.data = .seq vs.toArray n)
    (hi : IntsAre vs ns) (hL : vs.length ≤ sizeLine) (hu : A.units + 3 < cLine)
    (h : ∀ (h1 h' : Heap) (out : List Value) (c : Nat), (∀ b o', s.heap.get? b = some o' → h1.get? b = some o') → (∀ b o', h1.get? b = some o' → h'.get? b = some o') → IntsAre out (ns.mergeSort fun x y => decide (x ≤ y)) →
      h'.get? h1.objs.size = some (seqObj "list" out.toArray c) → Q (.ref h1.objs.size) { s with heap := h' }) : wpAny (model prog w) A (call (.builtin "sorted") [.ref l]) Q E s := by
  refine call_function_entry_kw kind_sorted plain_sorted entry_sorted (args_sorted1 _) ?_
  unfold Builtin.«sorted»
  refine wpAny_bind (m := checkCount "sorted" 1 1 _) (wpAny_pure ?_)
  refine wpAny_bind (wpAny_collect_seq l hT ho hc hd (fun h1 hk => ?_) (by rw [List.size_toArray]; exact hL))
  have hL2 : (vs.toArray.toList).length ≤ sizeLine := hL
  refine wpAny_bind (wpAny_newList ?_ hL2)
  have at2 : (h1.push (seqObj "list" vs.toArray 0)).get? h1.objs.size = some (seqObj "list" vs.toArray 0) := Heap.get?_push_size _ rfl
  have hk2 : ∀ b o', h1.get? b = some o' → (h1.push (seqObj "list" vs.toArray 0)).get? b = some o' := fun b o' e => Heap.get?_push_of_some _ e
  have ee := each_ints hi
  refine wpAny_bind (wpAny_holding (wpAny_call_entry_kw slot_list_sort (s := { s with heap := h1.push (seqObj "list" vs.toArray 0) }) ⟨_, at2, rfl⟩ entry_list_sort ?body (args_list_sort _)))
  case body =>
    have hal : AllAlike (ns.map PyData.int) := AllAlike.of fun _ _ => by simp [alike]
    have hkk : Sortable (ns.map PyData.int) := Sortable.others fun _ => ⟨nofun, nofun⟩
    refine list_sort_vals (s := { s with heap := h1.push (seqObj "list" vs.toArray 0) }) (κ := dataKind (sortingHeap (h1.push (seqObj "list" vs.toArray 0)) h1.objs.size vs) (ns.map .int)) at2
      (SortsAt.data (s := { s with heap := sortingHeap (h1.push (seqObj "list" vs.toArray 0)) h1.objs.size vs }) (each_map (R := fun v d => ∃ as, Reads (sortingHeap (h1.push (seqObj "list" vs.toArray 0)) h1.objs.size vs) v d as) PyData.int (each_reads ee)) hal hkk (bound_map (enc := PyData.int) fun b _ => by show A.in1.in1.units + _ < _; simp only [PyData.depth]; show A.units + 1 + 1 + 0 < _; omega)) hL ⟨.none, rfl, ?_⟩
    refine wpAny_pure ⟨_, rfl, ?_⟩
    have sd := sortVals_data (enc := PyData.int) (h' := sortingHeap (h1.push (seqObj "list" vs.toArray 0)) h1.objs.size vs) false ee (each_reads ee) hal
    have sl := ints_each sd
    rw [show dataLe false PyData.int = fun a b : Int => decide (a ≤ b) from dataLe_int (fun k : Int => k)] at sl
    obtain ⟨c, hc'⟩ := sortedHeap_at (out := (sortVals (dataKind (sortingHeap (h1.push (seqObj "list" vs.toArray 0)) h1.objs.size vs) (ns.map .int)) false vs vs).toArray) at2
    exact h _ _ _ c hk (fun b o' e => (sortedHeap_old (Nat.ne_of_lt (Heap.lt_size e)) (Heap.lt_size (hk2 b o' e))).trans (hk2 b o' e)) sl hc'
end
end VM
set_option Elab.async false
set_option linter.all false
set_option maxRecDepth 100000
/-! VmQ: more built-in functions. -/
namespace VM
open PySem PySem.Spec L2
section
variable {Z : Zed} {Wx : Value → Option Addr → Hp → Prop} {G0 E0 : Hp} {X : Cx}
/-! ### sum -/
def rSumA (K : PySem.W.Frag) : List V → Hp → VK → Prop := fun vs H Q => ∃ (a : Addr) (ns : List Int), vs = [V.ref a] ∧ (SqL K H a (ns.map V.int) ∨ SqT K H a (ns.map V.int)) ∧ Q (.int ns.sum) H
theorem cr_sumA (hc : X.calm = true) : CallR X (.builtin "sum") (rSumA X.K) := by
  intro pins s σ H vs us Q I r h
  obtain ⟨a, ns, rfl, hs | hs, q⟩ := h
  · exact cr_sum hc pins s σ H _ us Q I r ⟨a, ns, rfl, hs, q⟩
  · obtain ⟨its, rv, pl, _⟩ := I.tuple hs
    rw [Vals.ref1 r]
    have hi := rv.ints
    obtain ⟨xs, e⟩ := hi.allInts.items
    have hn : PySem.numsOf (PySem.intItems xs).toList = ns := by rw [← e]; exact hi.numsOf
    rw [PySem.nums_intItems] at hn
    rw [e] at pl
    refine call_sum_walkAnyS (PySem.W.iter_tupleW (A := X.A.in1) (I.ok.hd hc) pl fun s₂ e2 W st hfp _ _ => ?_)
    refine ⟨_, _, _, _, _, _, _, PySem.numAt xs, rfl, W, st, hfp, fun _ _ => PySem.intItems_at, fun s' t' m => ?_⟩
    obtain ⟨h', tk, rfl, hk⟩ := PySem.W.moved_old e2 rfl m
    refine ⟨.int ns.sum, H, I.kept hk, ⟨t', ?_⟩, q⟩
    rw [preSum_eq, List.take_of_length_le (by simp [PySem.intItems]), hn]
theorem bi_sum : BiR Z G0 E0 (bi .sum) (rSumA Z.K) := by
  intro G H Ha σ ρ w rs c vs Q S r e k
  unfold bi at e
  split at e <;> try (cases ‹Bi.sum = _›)
  · obtain ⟨v, rfl, r1⟩ := r.one
    rename_i a
    cases q : a.seq with
    | none => rw [q] at e; cases e
    | some kd =>
      obtain ⟨b, ds⟩ := kd
      rw [q] at e
      have e : (intsD ds).map _ = some c := e
      cases q2 : intsD ds with
      | none => rw [q2] at e; cases e
      | some ns =>
        rw [q2] at e
        cases e
        obtain ⟨p, xs, rfl, h1, h2⟩ := r1.seqA S.gl q
        obtain ⟨e1, _⟩ := h2.ofInts q2
        subst e1
        exact ⟨p, ns, rfl, h1, k.here S (.int _)⟩
  · cases e
/-! ### all, any of a list of bools -/
theorem bi_all : BiR Z G0 E0 (bi .all) (rAll Z.K) := by
  intro G H Ha σ ρ w rs c vs Q S r e k
  unfold bi at e
  split at e <;> try (cases ‹Bi.all = _›)
  · obtain ⟨v, rfl, r1⟩ := r.one
    split at e
    · rename_i ds q
      cases q2 : boolsD ds with
      | none => rw [q2] at e; cases e
      | some bs =>
        rw [q2] at e
        cases e
        obtain ⟨p, xs, rfl, h1, h2⟩ := r1.seqL S.gl q
        have e1 := h2.ofBools q2
        subst e1
        exact ⟨p, bs, rfl, SqL.of h1, k.here S (.bl _)⟩
    · cases e
  · cases e
theorem bi_any : BiR Z G0 E0 (bi .any) (rAny Z.K) := by
  intro G H Ha σ ρ w rs c vs Q S r e k
  unfold bi at e
  split at e <;> try (cases ‹Bi.any = _›)
  · obtain ⟨v, rfl, r1⟩ := r.one
    split at e
    · rename_i ds q
      cases q2 : boolsD ds with
      | none => rw [q2] at e; cases e
      | some bs =>
        rw [q2] at e
        cases e
        obtain ⟨p, xs, rfl, h1, h2⟩ := r1.seqL S.gl q
        have e1 := h2.ofBools q2
        subst e1
        exact ⟨p, bs, rfl, SqL.of h1, k.here S (.bl _)⟩
    · cases e
  · cases e
/-! ### numbers -/
theorem bi_abs : BiR Z G0 E0 (bi .abs) (fun xs H Q => ∃ i, xs = [.int i] ∧ Q (.int (if i < 0 then -i else i)) H) := by
  intro G H Ha σ ρ w rs c vs Q S r e k
  unfold bi at e
  split at e <;> try (cases ‹Bi.abs = _›)
  · obtain ⟨v, rfl, r1⟩ := r.one
    cases e
    cases r1
    exact ⟨_, rfl, k.here S (.int _)⟩
  · cases e
theorem bi_int : BiR Z G0 E0 (bi .int) (fun xs H Q => (∃ i, xs = [.int i] ∧ Q (.int i) H) ∨ ∃ k, xs = [.bl k] ∧ Q (.int (if k then 1 else 0)) H) := by
  intro G H Ha σ ρ w rs c vs Q S r e k
  unfold bi at e
  split at e <;> try (cases ‹Bi.int = _›)
  · obtain ⟨v, rfl, r1⟩ := r.one
    cases e
    cases r1
    exact .inl ⟨_, rfl, k.here S (.int _)⟩
  · cases e
theorem bi_min : BiR Z G0 E0 (bi .min) (fun xs H Q => ∃ i j, xs = [.int i, .int j] ∧ Q (.int (if j < i then j else i)) H) := by
  intro G H Ha σ ρ w rs c vs Q S r e k
  unfold bi at e
  split at e <;> try (cases ‹Bi.min = _›)
  · obtain ⟨v, u, H1, rfl, r1, r2⟩ := r.two
    cases e
    cases r1
    cases r2
    exact ⟨_, _, rfl, k.here S (.int _)⟩
  · cases e
theorem bi_max : BiR Z G0 E0 (bi .max) (fun xs H Q => ∃ i j, xs = [.int i, .int j] ∧ Q (.int (if j > i then j else i)) H) := by
  intro G H Ha σ ρ w rs c vs Q S r e k
  unfold bi at e
  split at e <;> try (cases ‹Bi.max = _›)
  · obtain ⟨v, u, H1, rfl, r1, r2⟩ := r.two
    cases e
    cases r1
    cases r2
    exact ⟨_, _, rfl, k.here S (.int _)⟩
  · cases e
/-! ### tuple, list -/
def rTupA (K : PySem.W.Frag) : List V → Hp → VK → Prop := fun xs H Q => ∃ p ys, xs = [.ref p] ∧ ((SqL K H p ys ∧ ∀ l, H l = none → Q (.ref l) (upd H l (.tup ys))) ∨ (SqT K H p ys ∧ Q (.ref p) H))
theorem bi_tuple : BiR Z G0 E0 (bi .tuple) (rTupA Z.K) := by
  intro G H Ha σ ρ w rs c vs Q S r e k
  unfold bi at e
  split at e <;> try (cases ‹Bi.tuple = _›)
  · obtain ⟨v, rfl, r1⟩ := r.one
    rename_i a
    cases q : a.seq with
    | none => rw [q] at e; cases e
    | some kd =>
      obtain ⟨b, ds⟩ := kd
      rw [q] at e
      cases e
      cases b with
      | true =>
        obtain ⟨p, xs, rfl, h1, h2, _, h3⟩ := r1.seqT S.gl q
        exact ⟨p, xs, rfl, .inr ⟨h1, k.here S (.tup h3 h2)⟩⟩
      | false =>
        obtain ⟨p, xs, rfl, h1, h2⟩ := r1.seqL S.gl q
        exact ⟨p, xs, rfl, .inl ⟨SqL.of h1, fun l hl => k.newT S h2 hl⟩⟩
  · cases e
def rListA (K : PySem.W.Frag) : List V → Hp → VK → Prop := fun xs H Q => ∃ p ys, xs = [.ref p] ∧ (SqL K H p ys ∨ SqT K H p ys) ∧ ∀ l, H l = none → Q (.ref l) (upd H l (.lst ys))
theorem bi_list : BiR Z G0 E0 (bi .list) (rListA Z.K) := by
  intro G H Ha σ ρ w rs c vs Q S r e k
  unfold bi at e
  split at e <;> try (cases ‹Bi.list = _›)
  · obtain ⟨v, rfl, r1⟩ := r.one
    rename_i a
    cases q : a.seq with
    | none => rw [q] at e; cases e
    | some kd =>
      obtain ⟨b, ds⟩ := kd
      rw [q] at e
      cases e
      obtain ⟨p, xs, rfl, h1, h2⟩ := r1.seqA S.gl q
      exact ⟨p, xs, rfl, h1, fun l hl => k.newL S h2 hl⟩
  · cases e
/-! ### sorted -/
def rSortA (K : PySem.W.Frag) : List V → Hp → VK → Prop := fun xs H Q => ∃ (p : Addr) (ns : List Int), xs = [V.ref p] ∧ (SqL K H p (ns.map V.int) ∨ SqT K H p (ns.map V.int)) ∧ ∀ l, H l = none → Q (.ref l) (upd H l (.lst ((ns.mergeSort fun x y => decide (x ≤ y)).map V.int)))
theorem cr_sortA (hu : X.A.units + 65 < cLine) : CallR X (.builtin "sorted") (rSortA X.K) := by
  intro pins s σ H vs us Q I r h
  obtain ⟨a, ns, rfl, hs, q⟩ := h
  rw [Vals.ref1 r]
  have fin : ∀ {T : String} {o : Obj} {its : List Value} {n : Nat}, Vals (ns.map V.int) its → (ns.map V.int).length ≤ sizeLine → (T = "list" ∨ T = "tuple") → s.heap.get? a = some o → o.cls = .type T → o.data = .seq its.toArray n →
      wpAny (model X.prog X.w) X.A (call (.builtin "sorted") [.ref a]) (EP X pins σ Q) X.xe s := fun {T o its n} rv hz hT ho hc hd => by
    have hlen := rv.length
    rw [List.length_map] at hlen hz
    refine sorted_seq hT ho hc hd rv.ints (by omega) (by omega) fun h1 h' out c k1 k2 hi he => ?_
    have n1 : s.heap.get? h1.objs.size = none := by
      cases z : s.heap.get? h1.objs.size with
      | none => rfl
      | some o' => exact absurd (Heap.lt_size (k1 _ _ z)) (Nat.lt_irrefl _)
    have n2 : H h1.objs.size = none := I.hok.gone n1
    have hl2 : out.length = ns.length := by rw [hi.length, (List.mergeSort_perm ns _).length_eq]
    refine ⟨.ref _, upd H h1.objs.size (.lst ((ns.mergeSort fun x y => decide (x ≤ y)).map V.int)), I.laidN (t' := s.toks) (fun b u e => k2 _ _ (k1 _ _ e)) n1 n2 ⟨?_, out, c, vals_of_ints hi, he⟩, rfl, q _ n2⟩
    rw [List.length_map, (List.mergeSort_perm ns _).length_eq]
    exact hz
  rcases hs with hs | hs
  · obtain ⟨its, rv, pl, hz⟩ := I.list hs
    obtain ⟨o, ho, hc, n, hd⟩ := pl.isList
    exact fin rv hz (.inl rfl) ho hc hd
  · obtain ⟨its, rv, pl, hz⟩ := I.tuple hs
    obtain ⟨o, ho, hc, n, hd⟩ := pl
    exact fin rv hz (.inr rfl) ho hc hd
theorem rpl_ints {G : Hp} : ∀ ns : List Int, RpL Z G (ns.map V.int) (ns.map D.int)
  | [] => .nil
  | n :: ns => .cons (.int n) (rpl_ints ns)
theorem bi_sorted : BiR Z G0 E0 (bi .sorted) (rSortA Z.K) := by
  intro G H Ha σ ρ w rs c vs Q S r e k
  unfold bi at e
  split at e <;> try (cases ‹Bi.sorted = _›)
  · obtain ⟨v, rfl, r1⟩ := r.one
    rename_i a
    cases q : a.seq with
    | none => rw [q] at e; cases e
    | some kd =>
      obtain ⟨b, ds⟩ := kd
      rw [q] at e
      have e : (intsD ds).map _ = some c := e
      cases q2 : intsD ds with
      | none => rw [q2] at e; cases e
      | some ns =>
        rw [q2] at e
        cases e
        obtain ⟨p, xs, rfl, h1, h2⟩ := r1.seqA S.gl q
        obtain ⟨e1, _⟩ := h2.ofInts q2
        subst e1
        exact ⟨p, ns, rfl, h1, fun l hl => k.newL S (rpl_ints _) hl⟩
  · cases e
/-! ### repr -/
mutual
theorem small_show : ∀ p : PyData, smallR p = true → p.showable = true ∧ p.hasDict = false ∧ p.leavesShort 13 = true
  | .none, _ => ⟨rfl, rfl, rfl⟩
  | .bool _, _ => ⟨rfl, rfl, rfl⟩
  | .int i, h => by
    have h : decide (i.natAbs < 1000000000000) = true := by simpa only [smallR] using h
    have h := of_decide_eq_true h
    refine ⟨?_, by simp only [PyData.hasDict], ?_⟩
    · simp only [PyData.showable]
      exact decide_eq_true (Spec.log2_small (Nat.lt_of_lt_of_le h (Nat.le_trans (by decide : 1000000000000 ≤ 2 ^ 64) (Nat.pow_le_pow_right (by decide) (by decide)))))
    · simp only [PyData.leavesShort]
      exact decide_eq_true (PyData.shown_int_le h)
  | .str x, h => by
    refine ⟨by simp only [PyData.showable], by simp only [PyData.hasDict], ?_⟩
    simp only [PyData.leavesShort]
    simpa only [smallR] using h
  | .list xs, h => by
    obtain ⟨a, b, c⟩ := small_shows xs (by simpa only [smallR] using h)
    exact ⟨by simpa only [PyData.showable] using a, by simpa only [PyData.hasDict] using b, by simpa only [PyData.leavesShort] using c⟩
  | .tuple xs, h => by
    obtain ⟨a, b, c⟩ := small_shows xs (by simpa only [smallR] using h)
    exact ⟨by simpa only [PyData.showable] using a, by simpa only [PyData.hasDict] using b, by simpa only [PyData.leavesShort] using c⟩
  | .dict _, h => by simp [smallR] at h
theorem small_shows : ∀ ps : List PyData, smallRs ps = true → PyData.showableAll ps = true ∧ PyData.hasDictAll ps = false ∧ PyData.leavesShortAll 13 ps = true
  | [], _ => ⟨by simp only [PyData.showableAll], by simp only [PyData.hasDictAll], by simp only [PyData.leavesShortAll]⟩
  | p :: ps, h => by
    simp only [smallRs, Bool.and_eq_true] at h
    obtain ⟨a, b, c⟩ := small_show p h.1
    obtain ⟨a2, b2, c2⟩ := small_shows ps h.2
    exact ⟨by simp only [PyData.showableAll, a, a2, Bool.and_self], by simp only [PyData.hasDictAll, b, b2, Bool.or_self], by simp only [PyData.leavesShortAll, c, c2, Bool.and_self]⟩
end
theorem okR_says {p : PyData} (h : okR p = true) : p.showable = true ∧ p.hasDict = false ∧ p.shown.length ≤ sizeLine ∧ p.depth < 60 := by
  unfold okR at h
  simp only [Bool.and_eq_true, decide_eq_true_eq] at h
  obtain ⟨a, b, c⟩ := small_show p h.1.1
  exact ⟨a, b, PyData.shown_fits (by decide) (by decide) c h.2, h.1.2⟩
def rRepr (K : PySem.W.Frag) : List V → Hp → VK → Prop := fun xs H Q => ∃ x p, xs = [x] ∧ Dp K H x p ∧ okR p = true ∧ Q (.str p.shown) H
theorem cr_repr (hg : X.A.guards = some []) (hu : X.A.units + 65 < cLine) : CallR X (.builtin "repr") (rRepr X.K) := by
  intro pins s σ H vs us Q I r h
  obtain ⟨x, p, rfl, hd, ok, q⟩ := h
  obtain ⟨u, rfl, rx⟩ := vals1 r
  obtain ⟨h1, h2, h3, h4⟩ := okR_says ok
  obtain ⟨as, rd⟩ := Dp.reads I p x u hd rx
  cases u with
  | ref a =>
    exact repr_of_reads' rd h1 (fun z => by rw [h2] at z; cases z) hg (by omega) (fun _ _ e => e) (fun h' u tk hk => ⟨.str _, H, I.kept hk, ⟨u, rfl⟩, q⟩) h3
  | _ =>
    cases rd <;> first
      | (simp only [PyData.shown_none] at q; exact PySem.P.repr_of_none ⟨.str _, H, I.tok _, ⟨_, rfl⟩, q⟩)
      | (simp only [PyData.shown_bool] at q; exact PySem.P.repr_of_bool ⟨.str _, H, I.tok _, ⟨_, rfl⟩, q⟩)
      | (simp only [PyData.shown_int] at q; exact PySem.P.repr_of_int (of_decide_eq_true (by simpa only [PyData.showable] using h1)) ⟨.str _, H, I.tok _, ⟨_, rfl⟩, q⟩)
      | (simp only [PyData.shown_str] at q h3; exact PySem.P.repr_of_str ⟨.str _, H, I.tok _, ⟨_, rfl⟩, q⟩ h3)
theorem bi_repr : BiR Z G0 E0 (bi .repr) (rRepr Z.K) := by
  intro G H Ha σ ρ w rs c vs Q S r e k
  unfold bi at e
  split at e <;> try (cases ‹Bi.repr = _›)
  · obtain ⟨v, rfl, r1⟩ := r.one
    split at e
    · rename_i p q
      split at e
      · rename_i ok
        cases e
        exact ⟨v, p, rfl, r1.look S.gl q, ok, k.here S (.str _)⟩
      · cases e
    · cases e
  · cases e
theorem bi_str : BiR Z G0 E0 (bi .str) (fun xs H Q => ∃ i : Int, xs = [.int i] ∧ i.natAbs.log2 < 1920 ∧ Q (.str (toString i)) H) := by
  intro G H Ha σ ρ w rs c vs Q S r e k
  unfold bi at e
  split at e <;> try (cases ‹Bi.str = _›)
  · obtain ⟨v, rfl, r1⟩ := r.one
    split at e
    · rename_i hz
      cases e
      cases r1
      exact ⟨_, rfl, hz, k.here S (.str _)⟩
    · cases e
  · cases e
end
end VM
set_option Elab.async false
set_option linter.all false
set_option maxRecDepth 100000
/-! VmR: len(set(x)). -/
namespace VM
open PySem PySem.Spec L2
theorem any_beq {l : List Int} {k : Int} : l.any (· == k) = true ↔ k ∈ l := by
  rw [List.any_eq_true]
  exact ⟨fun ⟨x, h1, h2⟩ => by rw [← eq_of_beq h2]; exact h1, fun h => ⟨k, h, by simp⟩⟩
theorem dedup_ok : ∀ (ns acc : List Int), acc.Nodup → (ns.foldl (fun acc k => if acc.any (· == k) then acc else acc ++ [k]) acc).Nodup ∧ ∀ k, k ∈ (ns.foldl (fun acc k => if acc.any (· == k) then acc else acc ++ [k]) acc) ↔ k ∈ acc ∨ k ∈ ns
  | [], acc, h => ⟨h, fun k => by simp⟩
  | n :: ns, acc, h => by
    rw [List.foldl_cons]
    by_cases z : acc.any (· == n) = true
    · rw [if_pos z]
      obtain ⟨a, b⟩ := dedup_ok ns acc h
      refine ⟨a, fun k => (b k).trans ?_⟩
      rw [any_beq] at z
      rw [List.mem_cons]
      exact ⟨fun q => q.elim .inl fun q => .inr (.inr q), fun q => q.elim .inl fun q => q.elim (fun e => .inl (e ▸ z)) .inr⟩
    · rw [if_neg z]
      rw [any_beq] at z
      obtain ⟨a, b⟩ := dedup_ok ns (acc ++ [n]) (List.nodup_append.mpr ⟨h, by simp, fun x hx y hy e => z (by rw [List.mem_singleton] at hy; rw [← hy, ← e]; exact hx)⟩)
      refine ⟨a, fun k => (b k).trans ?_⟩
      rw [List.mem_cons, List.mem_append, List.mem_singleton]
      exact ⟨fun q => q.elim (fun q => q.elim .inl fun e => .inr (.inl e)) fun q => .inr (.inr q), fun q => q.elim (fun q => .inl (.inl q)) fun q => q.elim (fun e => .inl (.inr e)) .inr⟩
theorem nodup_le : ∀ {l m : List Int}, l.Nodup → (∀ k ∈ l, k ∈ m) → l.length ≤ m.length
  | [], _, _, _ => Nat.zero_le _
  | a :: l, m, hd, hs => by
    rw [List.nodup_cons] at hd
    have ha : a ∈ m := hs a List.mem_cons_self
    have h2 := nodup_le (m := m.erase a) hd.2 fun k hk => (List.mem_erase_of_ne (fun (e : k = a) => hd.1 (by rw [← e]; exact hk))).mpr (hs k (List.mem_cons_of_mem _ hk))
    rw [List.length_erase_of_mem ha] at h2
    have := List.length_pos_of_mem ha
    rw [List.length_cons]
    omega
theorem nodup_len {l m : List Int} (h1 : l.Nodup) (h2 : m.Nodup) (h : ∀ k, k ∈ l ↔ k ∈ m) : l.length = m.length :=
  Nat.le_antisymm (nodup_le h1 fun k => (h k).mp) (nodup_le h2 fun k => (h k).mpr)
theorem range_getD (ns : List Int) : (List.range ns.length).map (fun i => ns.getD i 0) = ns := by
  apply List.ext_getElem?
  intro i
  rw [List.getElem?_map]
  by_cases h : i < ns.length
  · rw [List.getElem?_range h]
    simp [h]
  · rw [List.getElem?_eq_none (by simpa using h), List.getElem?_eq_none (by simpa using h)]
    rfl
theorem firstMet_dedup (ns : List Int) : PyProof.Rows.firstMet (fun i => ns.getD i 0) ns.length = dedup ns := by
  unfold PyProof.Rows.firstMet dedup
  rw [range_getD]
  rfl
section
variable {Z : Zed} {Wx : Value → Option Addr → Hp → Prop} {G0 E0 : Hp} {X : Cx}
def kSet (K : PySem.W.Frag) (ta : TE) : TE := fun σ H Q => ta σ H fun x H1 => ∃ (l : Addr) (ns : List Int), x = .ref l ∧ (SqL K H1 l (ns.map V.int) ∨ SqT K H1 l (ns.map V.int)) ∧ ns.length ≤ 1000 ∧ Q (.int (dedup ns).length) H1
theorem pe_setK {a : Expr} {ta : TE} {p p2 q pos : Pos} (hc : X.calm = true) (hg : Gl X "len") (hm : X.mg "len" = none) (hg2 : Gl X "set") (hm2 : X.mg "set" = none) (ha : PE X a ta)
    (na : starEach [a] X.env = (false, eval a X.env) :: starEach [] X.env) : PE X (.Call (.Name "len" p) [.Call (.Name "set" p2) [a] [] q] [] pos) (kSet X.K ta) := by
  refine ⟨fun pins s σ H Q I h => ?_⟩
  refine PyProof.Rows.Call_ (ld_blt I hg hm boot_len ?_)
  refine PyProof.Rows.callWith_builtin1 (PyProof.Rows.args_cons ?_ rfl) rfl rfl
  refine PyProof.Rows.Call_ (ld_blt I hg2 hm2 PyProof.Rows.boot_set ?_)
  refine PyProof.Rows.callWith_type1 (PyProof.Rows.args_cons (thn (ha.run pins s σ H _ I h) fun v s1 ⟨x, H1, I1, r1, q1⟩ => PyProof.Rows.args_nil ?_) na) na rfl
  obtain ⟨l, ns, rfl, hq, hl, q1⟩ := q1
  cases r1
  rcases hq with hq | hq
  · obtain ⟨its, r, pl, hz⟩ := I1.list hq
    have hlen : its.toArray.size = ns.length := by rw [List.size_toArray, ← r.length, List.length_map]
    refine call_set_list (I1.ok.hd hc) pl.isList (ns := ns) (by simpa using r.ints) (by rw [hlen]; unfold scanBound; omega) fun h' tk hS hk => ?_
    refine PyProof.Rows.args_nil ?_
    rw [hlen, firstMet_dedup] at hS
    obtain ⟨o, es, ep, t, ho, hex, hd, _, _, _, hf, hn⟩ := hS
    have I2 : Inv X pins σ H1 { s1 with heap := h', toks := tk } := I1.kept fun b o e => hk b o (Heap.lt_size e) e
    have hdl : (dedup ns).length ≤ 1000 := by
      rw [← firstMet_dedup]
      exact Nat.le_trans (PyProof.Rows.firstMet_length_le _ _) hl
    exact call_len_set ho hex hd hf (by rw [hn] <;> omega) ⟨.int (dedup ns).length, H1, I2.tok _, ⟨_, by rw [hn]⟩, q1⟩
  · obtain ⟨its, r, pl, hz⟩ := I1.tuple hq
    refine call_set_tupI ns (I1.ok.hd hc) pl (by simpa using r.ints) (by unfold scanBound; omega) fun h' tk c hS hcl hk => ?_
    refine PyProof.Rows.args_nil ?_
    obtain ⟨o, es, ep, t, ho, hex, hd, hg1, hnd, hmem, hb, hf, hn, _⟩ := hS
    have I2 : Inv X pins σ H1 { s1 with heap := h', toks := tk } := I1.kept hk
    obtain ⟨d1, d2⟩ := dedup_ok ns [] List.nodup_nil
    have e : es.size = (dedup ns).length := by
      have := nodup_len hnd d1 fun k => by rw [← hmem k, d2 k]; simp
      rw [List.length_map, Array.length_toList] at this
      exact this
    exact call_len_set ho hex hd hf (by rw [hn] <;> omega) ⟨.int (dedup ns).length, H1, I2.tok _, ⟨_, by rw [← e]⟩, q1⟩
theorem pe_setl {a : Expr} {f : En → Dw → Res RV} {p p2 q pos : Pos} (hK : X.K = Z.K) (hc : X.calm = true) (hg : Gl X "len") (hm : X.mg "len" = none) (hg2 : Gl X "set") (hm2 : X.mg "set" = none) (ha : PE X a (SE Z Wx G0 E0 f)) (hs : ∀ x p, a ≠ .Starred x p) :
    PE X (.Call (.Name "len" p) [.Call (.Name "set" p2) [a] [] q] [] pos) (SE Z Wx G0 E0 fun ρ w => ((f ρ w).bind fun u w => (Res.ok ([] : List RV) w).bind fun us w => .ok (u :: us) w).bind fun rs w => .opt (bi .setl rs) w) :=
  PE.imp (pe_setK hc hg hm hg2 hm2 ha (starEach_cons hs)) fun σ H Q ⟨G, ρ, w, S, k⟩ => ⟨G, ρ, w, S, (out_bind.mp (out_bind.mp k)).mono fun u w1 h1 v1 G1 H1 x1 S1 r1 => by
    obtain ⟨c, e, k1⟩ := out_opt.mp h1
    unfold bi at e
    dsimp only at e
    cases q : u.seq with
    | none => rw [q] at e; cases e
    | some kd =>
      obtain ⟨b, ds⟩ := kd
      rw [q] at e
      have e : (intsD ds).bind _ = some c := e
      cases q2 : intsD ds with
      | none => rw [q2] at e; cases e
      | some ns =>
        rw [q2, Option.bind_some] at e
        split at e
        · rename_i hz
          cases e
          obtain ⟨p, xs, rfl, h1, h2⟩ := r1.seqA S1.gl q
          obtain ⟨e1, _⟩ := h2.ofInts q2
          subst e1
          exact ⟨p, ns, rfl, by rw [hK]; exact h1, hz, (KE.trans x1 k1).here S1 (.int _)⟩
        · cases e⟩
end
end VM
set_option Elab.async false
set_option linter.all false
set_option maxRecDepth 100000
set_option maxHeartbeats 2000000
/-! VmS: a def by its body; the end of the law (HandS.EndTab's, turned to promises that ask that no repr is under way). -/
namespace VM
open PySem PySem.Spec PyProof.Rows L2 LamX
theorem fn_ofG {CX : CXT} {P : Program} {w : World} {K : PySem.W.Frag} {mg : Str → Option Value} {base : Heap} {k : Nat} {gu : Bool} {f : Addr} {name qual : Str} {params : Arguments} {body : List Stmt} {scope : Scope} {dV kV doc pm cdv ct oc : Value} {an od : Option Addr}
    {osl : Array (Option Value)} {N ps : List Str} {sp : Sp} (lk : K.lookup f = some ⟨oc, od, .func (PySem.W.fnOf name qual params body scope dV kV doc pm an cdv ct), osl⟩) (hcd : PySem.W.codeIn K cdv qual = true) (S : FnScope N ps scope)
    (len : ∀ vs H Q E, sp vs H Q E → vs.length = ps.length)
    (hbody : ∀ (A : Around) (outer : List Env) (s : Shared) (H : Hp) (vs : List V) (Q : VK) (E : XK), Room k (A.deeper (envOfC qual scope s.heap.objs.size f cdv)) → (gu = true → A.guards = some []) → sp vs H Q E →
      ∃ t, PSs (cxOf CX P w K mg base N qual scope f cdv A outer s H E) body t ∧ t { nx := fun _ H' => Q .non H', rt := Q } (L2.start N vs) H) :
    FnG gu P w K mg base CX (k + 1) f (PySem.W.fnOf name qual params body scope dV kV doc pm an cdv ct) ps sp :=
  ⟨len, fun A outer s H args us vs Q E hr hg e0 hb r hsp => LamX.run_ofS lk hcd S hr e0 hb r (len _ _ _ _ hsp) fun hr' => hbody A outer s H vs Q E hr' hg hsp⟩
theorem law_callG {P : Program} {w : World} {K : PySem.W.Frag} {mg mb : Str → Option Value} {CX : CXT} {k : Nat} {gu : Bool} {fa a : Addr} {cs : List (Addr × Addr)} {fd : FuncData} {x : Str} {sp : Sp} {s₁ : Shared} {vs : List Value} {ns : List Int}
    (KX : K.In s₁.heap) (hns : s₁.heap.Ns mainGlobals mg) (hb : s₁.heap.Ns builtinsNs mb) (hbb : ∀ x : Str, x ≠ "__name__" → mb x = bootBuiltins x) (hlim : s₁.heap.NoLimit) (hg : s₁.gens = #[])
    (hT : ∀ p ∈ cs, s₁.heap.get? p.2 = some { cls := .none, data := .fields #[] }) (nT : ∀ p ∈ cs, K.lookup p.2 = none) (C : ∀ p ∈ cs, PySem.W.CodeHd s₁.heap p.1 p.2)
    (hbm : ∃ (bm : Addr) (ob : Obj), mg "__builtins__" = some (.ref bm) ∧ bm ≠ builtinsNs ∧ s₁.heap.get? bm = some ob ∧ ob.cls = .type "module" ∧ ob.dict = some builtinsNs ∧ ob.data = .plain)
    (ha : s₁.heap.get? a = some { cls := .type "list", data := .seq vs.toArray }) (hi : IntsAre vs ns) (hl : ns.length ≤ sizeLine) (hr : Room k callerA)
    (F : ∀ base : Heap, K.In base → base.Ns mainGlobals mg → (∀ p ∈ cs, TabB base mg p.1 p.2) → FnG gu P w K mg base CX k fa fd [x] sp) (hbind : ∀ (s : Shared) (u : Value), BindsTo s fd ⟨[u], []⟩ [(x, u)])
    (hsp : ∀ H : Hp, (∀ p ∈ cs, H p.2 = some (.tbl #[])) → SqL K H a (ns.map V.int) → sp [.ref a] H (fun v _ => v = .bl true) fun _ _ _ => False)
    (hCX : ∀ H e s', CX [] H s₁ (fun _ _ _ => False) e s' → False) :
    codeAny (model P w) callerA (.call (.ref fa) ⟨[.ref a], []⟩) (fun r s' => r = .ok (.ret (.bool true)) ∧ OldK s₁.heap s'.heap ∧ s'.os = s₁.os ∧ AllBare s'.gens) s₁ := by
  have rv := vals_ints hi
  have lenV := hi.length
  have isT : ∀ b : Addr, b ∈ cs.map (·.2) → s₁.heap.get? b = some { cls := .none, data := .fields #[] } := fun b hb => by
    obtain ⟨p, hp, e⟩ := List.mem_map.mp hb
    rw [← e]
    exact hT p hp
  have aT : a ∉ cs.map (·.2) := fun z => by
    have q := isT a z
    rw [ha] at q
    have z' : Data.seq vs.toArray _ = Data.fields #[] := congrArg Obj.data (Option.some.inj q)
    cases z'
  have memT : ∀ p ∈ cs, p.2 ∈ cs.map (·.2) := fun p hp => List.mem_map.mpr ⟨p, hp, rfl⟩
  -- from an abstract heap in which nothing but the script and the tables may be tracked
  have core : ∀ H : Hp, (∀ p ∈ cs, H p.2 = some (.tbl #[])) → (∀ b, H b = none ∨ b ∈ cs.map (·.2) ∨ ∃ o xs, H b = some (.frz o (.lst xs))) → SqL K H a (ns.map V.int) → HOk P w H s₁.heap → (∀ b, H b ≠ none → b = a ∨ b ∈ cs.map (·.2)) → (H a ≠ none → K.lookup a = none) →
      codeAny (model P w) callerA (.call (.ref fa) ⟨[.ref a], []⟩) (fun r s' => r = .ok (.ret (.bool true)) ∧ OldK s₁.heap s'.heap ∧ s'.os = s₁.os ∧ AllBare s'.gens) s₁ := by
    intro H hH hO hS hok hA hK
    have base_of : ∀ {b : Addr} {o : Obj}, s₁.heap.get? b = some o → H b = none → (hidT s₁.heap H).get? b = some o := fun e n => hidT_get e n
    have noD : ∀ {b : Addr} {o : Obj}, s₁.heap.get? b = some o → (∀ vs n, o.data ≠ .seq vs n) → o.data ≠ .fields #[] → H b = none := fun {b o} e h1 h2 => by
      cases q : H b with
      | none => rfl
      | some u =>
        rcases hA b (by rw [q]; simp) with e' | e'
        · rw [e', ha] at e
          cases e
          exact (h1 _ _ rfl).elim
        · rw [isT b e'] at e
          cases e
          exact (h2 rfl).elim
    have noA : ∀ {b : Addr} {o : Obj} {es : Array DictEntry} {ep : Nat}, s₁.heap.get? b = some o → o.data = .dict es ep → H b = none := fun {b o es ep} e d => by
      refine noD e (fun vs n z => ?_) fun z => ?_
      · rw [d] at z
        cases z
      · rw [d] at z
        cases z
    have nsK : ∀ {b : Addr} {m : Str → Option Value}, s₁.heap.Ns b m → (hidT s₁.heap H).Ns b m := fun {b m} ⟨o, es, ep, e, d, r⟩ => ⟨o, es, ep, base_of e (noA e d), d, r⟩
    have hKb : K.In (hidT s₁.heap H) := fun b o e => base_of (KX b o e) (by
      cases q : H b with
      | none => rfl
      | some u =>
        rcases hA b (by rw [q]; simp) with e' | e'
        · rw [e'] at e q
          rw [hK (by rw [q]; simp)] at e
          cases e
        · obtain ⟨p, hp, ep⟩ := List.mem_map.mp e'
          rw [← ep, nT p hp] at e
          cases e)
    have hM : L2.Mod K mg (hidT s₁.heap H) := ⟨hKb, nsK hns, ⟨mb, nsK hb, hbb⟩, let ⟨mc, h1, h2⟩ := hlim; ⟨mc, nsK h1, h2⟩⟩
    have TB : ∀ p ∈ cs, TabB (hidT s₁.heap H) mg p.1 p.2 := fun p hp => by
      have hTp := hT p hp
      refine ⟨?_, ?_, fun z => ?_⟩
      · obtain ⟨o, us, file, tf, flags, tg, inF, text, tt, e1, r1, r2, r3, r4, r5, r6, r7, r8, hne⟩ := C p hp
        refine ⟨o, us, file, tf, flags, tg, inF, text, tt, base_of e1 (noD e1 (fun vs n z => ?_) fun z => ?_), r1, r2, r3, r4, r5, r6, r7, r8, hne⟩
        · rw [r2] at z
          cases z
        · rw [r2] at z
          cases z
          simp at r3
      · obtain ⟨bm, ob, b1, b2, b3, b4, b5, b6⟩ := hbm
        have nG : bm ≠ mainGlobals := fun q => by
          obtain ⟨o, es, ep, e, hd, _⟩ := hns
          rw [q, e] at b3
          cases b3
          rw [hd] at b6
          cases b6
        have nP : bm ≠ p.2 := fun q => by
          rw [q, hTp] at b3
          cases b3
          cases b6
        refine ⟨bm, ob, b1, b2, nG, nP, base_of b3 (noD b3 (fun vs n z => ?_) fun z => ?_), b4, b5, b6⟩
        · rw [b6] at z
          cases z
        · rw [b6] at z
          cases z
      · obtain ⟨o, es, ep, e, hd, _⟩ := hns
        rw [z, hTp] at e
        cases e
        cases hd
    have e0 : Env0 P w K mg (hidT s₁.heap H) callerA [] s₁ H := ⟨rfl, hM, fun b o e => of_hidT e, Nat.le_of_eq (hidT_size _ _), trivial, fun b hb => absurd (show b ∈ ([] : List Addr) from hb) (by simp), hok, .of_eq hg⟩
    refine codeAny_mono ((F _ hKb (nsK hns) TB).run callerA [] s₁ H ⟨[.ref a], []⟩ [.ref a] [.ref a] _ _ hr (fun _ => rfl) e0 (hbind s₁ (.ref a)) (.cons rfl .nil) (hsp H hH hS)) fun r s' h => ?_
    cases r with
    | error e => exact (hCX H e s' h).elim
    | ok fl =>
      cases fl with
      | next => exact False.elim h
      | brk => exact False.elim h
      | cont => exact False.elim h
      | ret u =>
        obtain ⟨v, H', os, bare, un, hok', r', q⟩ := h
        have q' : v = .bl true := q
        subst q'
        obtain rfl : u = Value.bool true := r'
        have key : ∀ b o, b ∉ cs.map (·.2) → s₁.heap.get? b = some o → s'.heap.get? b = some o := fun b o nb e => by
          cases q : H b with
          | none => exact un.keep b o e q (by intro z; exact absurd (show b ∈ ([] : List Addr) from z) (by simp)) (by simp)
          | some u =>
            rcases hO b with z | z | ⟨ob, xs, z⟩
            · rw [q] at z; cases z
            · exact absurd z nb
            · have z2 := un.frzs b ob _ z
              obtain ⟨e1, _⟩ := hok b _ z
              obtain ⟨e2, _⟩ := hok' b _ z2
              rw [e] at e1; cases e1
              exact e2
        have grown : ∀ p ∈ cs, ∃ more : Array Value, s'.heap.get? p.2 = some { cls := .none, data := .fields more } := fun p hp => by
          obtain ⟨more, z⟩ := un.tbls p.2 #[] (hH p hp)
          exact ⟨_, hok' p.2 _ z⟩
        refine ⟨rfl, ⟨fun b o e => ?_, fun b o e => ?_⟩, os, bare⟩
        · by_cases hb : b ∈ cs.map (·.2)
          · obtain ⟨p, hp, ep⟩ := List.mem_map.mp hb
            obtain ⟨more, hm⟩ := grown p hp
            rw [← ep] at e ⊢
            rw [hT p hp] at e
            cases e
            exact .inr (.inl ⟨((C p hp).tab (hT p hp)).isCodeTable, rfl, #[], more, rfl, by rw [Array.empty_append]; exact hm⟩)
          · exact .inl (key b o hb e)
        · by_cases hb : b ∈ cs.map (·.2)
          · obtain ⟨p, hp, ep⟩ := List.mem_map.mp hb
            obtain ⟨more, hm⟩ := grown p hp
            rw [← ep]
            exact ⟨_, hm⟩
          · exact ⟨o, key b o hb e⟩
  cases hk : K.lookup a with
  | some o =>
    have e := KX a o hk
    rw [ha] at e
    cases e
    refine core (fun b => if b ∈ cs.map (·.2) then some (.tbl #[]) else none) (fun p hp => if_pos (memT p hp)) (fun b => ?_) (.inr ⟨_, vs.toArray, _, hk, rfl, rfl, rfl, by rw [List.size_toArray, lenV]; exact hl, by simpa using rv⟩) (fun b u z => ?_) (fun b z => ?_) fun z => absurd (show (if a ∈ cs.map (·.2) then some (HO.tbl #[]) else none) = none from if_neg aT) z
    · by_cases hb : b ∈ cs.map (·.2)
      · exact .inr (.inl hb)
      · exact .inl (if_neg hb)
    · by_cases hb : b ∈ cs.map (·.2)
      · have z' := (if_pos hb).symm.trans z
        cases z'
        exact isT b hb
      · have z' := (if_neg hb).symm.trans z
        cases z'
    · by_cases hb : b ∈ cs.map (·.2)
      · exact .inr hb
      · exact absurd (if_neg hb) z
  | none =>
    refine core (fun b => if b = a then some (.frz { cls := .type "list", data := .seq vs.toArray } (.lst (ns.map V.int))) else if b ∈ cs.map (·.2) then some (.tbl #[]) else none) (fun p hp => (if_neg (show ¬ p.2 = a from fun z => aT (by rw [← z]; exact memT p hp))).trans (if_pos (memT p hp))) (fun b => ?_)
      (.inl (.inr ⟨{ cls := .type "list", data := .seq vs.toArray }, if_pos rfl⟩)) (fun b u z => ?_) (fun b z => ?_) fun _ => hk
    · by_cases hb : b = a
      · exact .inr (.inr ⟨_, _, if_pos hb⟩)
      · by_cases hb2 : b ∈ cs.map (·.2)
        · exact .inr (.inl hb2)
        · exact .inl ((if_neg hb).trans (if_neg hb2))
    · by_cases hb : b = a
      · have z' := (if_pos hb).symm.trans z
        cases z'
        rw [hb]
        exact ⟨ha, by rw [List.length_map]; exact hl, vs, _, rv, ha⟩
      · have z1 := (if_neg hb).symm.trans z
        by_cases hb2 : b ∈ cs.map (·.2)
        · have z' := (if_pos hb2).symm.trans z1
          cases z'
          exact isT b hb2
        · have z' := (if_neg hb2).symm.trans z1
          cases z'
    · by_cases hb : b = a
      · exact .inl hb
      · by_cases hb2 : b ∈ cs.map (·.2)
        · exact .inr hb2
        · exact absurd ((if_neg hb).trans (if_neg hb2)) z

/-- what is known of the law's promise at the head's heap h -/
def LawAtG (l : PySem.W.OpenLaw) (w : World) (K : PySem.W.Frag) (CX : CXT) (k n : Nat) (x : Str) (mg : Str → Option Value) (fa : Addr) (h : Heap) : Prop :=
  ∃ (fd : FuncData) (cs : List (Addr × Addr)) (sp : Sp), (∀ p ∈ cs, h.get? p.2 = some { cls := .none, data := .fields #[] }) ∧ (∀ p ∈ cs, K.lookup p.2 = none) ∧ (∀ p ∈ cs, PySem.W.CodeHd h p.1 p.2) ∧ (∀ (s : Shared) (u : Value), BindsTo s fd ⟨[u], []⟩ [(x, u)]) ∧
    (∀ (H : Hp) (a : Addr) (ns : List Int), ns.length ≤ n → (∀ z ∈ ns, Builtin.Int.intBits z ≤ 1048576) → (∀ p ∈ cs, H p.2 = some (.tbl #[])) → SqL K H a (ns.map V.int) → sp [.ref a] H (fun v _ => v = .bl true) fun _ _ _ => False) ∧
    ∀ base : Heap, K.In base → base.Ns mainGlobals mg → (∀ p ∈ cs, TabB base mg p.1 p.2) → FnG true l.prog w K mg base CX k fa fd [x] sp
theorem walk_ofG {l : PySem.W.OpenLaw} {n k : Nat} {q : Program} {loose : List Str} {XP : (Str → Option Value) → Heap → Prop} {YP : World → Heap → Prop} {d : DefRec} {K : Params → PySem.W.Frag} {CX : World → CXT} {x : Str}
    (hn : l.most = some n) (hn2 : n ≤ sizeLine) (hdf : d.params.defaults = []) (hr : Room k callerA) (hY : ∀ (w : World) (h : Heap), YP w h → (K w.params).In h)
    (F : ∀ (w : World) (mg : Str → Option Value) (fa : Addr) (h : Heap), YP w h → (K w.params).In h → h.Ns mainGlobals mg → mg d.name = some (.ref fa) → LawAtG l w (K w.params) (CX w) k n x mg fa h)
    (hCX : ∀ (w : World) (H : Hp) (s : Shared) (e : Value) (s' : Shared), CX w [] H s (fun _ _ _ => False) e s' → False) :
    PySem.W.WalkO q loose XP YP l.row.toRowW d [] (fun f vs => PySem.call f vs) := by
  refine Att.attach_callB hn hdf fun w s₀ s₁ mg mb fa o pm cd doc a vs ns G Y ho hd hcd hmg hobj hints hlen hbits hg => ?_
  have KX := hY w _ Y
  obtain ⟨fd, cs, sp, hT, nT, C, hb, hsp, hF⟩ := F w mg fa _ Y KX G.T.g hmg
  exact law_callG KX G.T.g G.T.b G.T.builtins G.T.nolimit hg hT nT C G.T.bmain hobj hints (Nat.le_trans hlen hn2) hr hF hb (fun H hH hS => hsp H a ns hlen hbits hH hS) fun H e s' => hCX w H s₁ e s'
end VM
set_option Elab.async false
set_option linter.all false
set_option maxRecDepth 100000
/-! VmT: the draws' dict. -/
namespace VM
open PySem PySem.Spec L2
def keyD : DF → Str
  | .large => "large"
  | .rest => "rest"
  | .cells => "cells"
  | .turn => "turn"
section
variable {Z : Zed} {Wx : Value → Option Addr → Hp → Prop} {G0 E0 : Hp}
theorem tabs_mut {T : List (Addr × Str)} {H : Hp} {p : Addr} {o u : HO} (t : LamX.Tabs T H) (hp : H p = some o) (n1 : ∀ ps, o ≠ .tbl ps) (n2 : ∀ c q, o ≠ LamX.CodeO c q) : LamX.Tabs T (upd H p u) := fun q hq => by
  obtain ⟨ps, h1, h2, h3⟩ := t q hq
  have nt : ∀ b o', H b = some o' → o ≠ o' → b ≠ p := fun b o' e n z => by
    rw [z, hp] at e
    cases e
    exact n rfl
  refine ⟨ps, by rw [upd_ne (nt _ _ h1 (n1 ps))]; exact h1, h2, fun pos cv hc => ?_⟩
  obtain ⟨c, e1, e2⟩ := h3 pos cv hc
  exact ⟨c, e1, by rw [upd_ne (nt _ _ e2 (n2 _ _))]; exact e2⟩
theorem dk_code {kvs : List (Key × V)} : (∀ ps, HO.dK kvs ≠ .tbl ps) ∧ ∀ c q, HO.dK kvs ≠ LamX.CodeO c q := ⟨fun _ z => (by cases z), fun _ _ z => (by unfold LamX.CodeO at z; cases z)⟩
theorem lst_code {xs : List V} : (∀ ps, HO.lst xs ≠ .tbl ps) ∧ ∀ c q, HO.lst xs ≠ LamX.CodeO c q := ⟨fun _ z => (by cases z), fun _ _ z => (by unfold LamX.CodeO at z; cases z)⟩
theorem isDr_of {o : Option Sl} (h : isDr o = true) : o = some (.v .dr) := by
  unfold isDr at h
  split at h
  · rfl
  · cases h
/-- a marked object changes -/
theorem Stt.mark {G H : Hp} {σ : St} {ρ : En} {w w' : Dw} (S : Stt Z G0 E0 G H σ ρ w) {p : Addr} {m o u : HO} (gp : G p = some m) (hm : isMk m = true) (hp : H p = some o) (n1 : ∀ ps, o ≠ .tbl ps) (n2 : ∀ c q, o ≠ LamX.CodeO c q)
    (d : DwOk Z G (upd H p u) w') : Stt Z G0 E0 G (upd H p u) σ ρ w' ∧ Nx G H G (upd H p u) := by
  have x : Nx G H G (upd H p u) := ⟨fun _ _ h => h, fun b o' e n k => by
    have : b ≠ p := fun z => by
      have := k m (by rw [z]; exact gp)
      rw [hm] at this
      cases this
    rw [upd_ne this]
    exact e, fun b e => by
    by_cases z : b = p
    · rw [z, upd_same]; simp
    · rw [upd_ne z]; exact e, fun _ h => .inl h⟩
  refine ⟨S.next x ⟨fun b o' e n => ?_, S.gl.gty, fun b o' e => ?_, S.gl.mks, d, tabs_mut S.gl.tab hp n1 n2⟩, x⟩
  · have : b ≠ p := fun z => by
      rw [z, gp] at e
      cases e
      rw [hm] at n
      cases n
    rw [upd_ne this]
    exact S.gl.gok b o' e n
  · by_cases z : b = p
    · rw [z, upd_same]; simp
    · rw [upd_ne z]; exact S.gl.gin b o' e
variable {X : Cx} {pos p1 p2 p3 : Pos} {i j : Nat} {x : Str} {f : En → Dw → Res RV}
theorem noSl_str {y : Str} {p : Pos} : NoSl (.Constant (.str y) j p) := fun _ _ => rfl
theorem Stt.dr {G H : Hp} {σ : St} {ρ : En} {w : Dw} (S : Stt Z G0 E0 G H σ ρ w) (hi : isDr ρ[i]? = true) (on : w.on = true) : ∃ (a l : Addr) (kvs : List (Key × V)) (xs : List V) (vr vc vt : V), σ[i]? = some (some (V.ref a)) ∧ G a = some mkD ∧ G l = some mkL ∧ (∀ b, G b = some mkD → b = a) ∧ (∀ b, G b = some mkL → b = l) ∧
      H a = some (.dK kvs) ∧ kvs.length ≤ 100 ∧ valV kvs (.inr "large") = some (.ref l) ∧ valV kvs (.inr "rest") = some vr ∧ valV kvs (.inr "cells") = some vc ∧ valV kvs (.inr "turn") = some vt ∧
      H l = some (.lst xs) ∧ RpL Z G xs w.large ∧ Rp Z G vr w.rest ∧ Rp Z G vc w.cells ∧ Rp Z G vt w.turn := by
  obtain ⟨v, h1, h2⟩ := S.val i .dr (isDr_of hi)
  have d := S.gl.dw
  unfold DwOk at d
  rw [if_pos on] at d
  obtain ⟨a, l, kvs, xs, vr, vc, vt, g1, g2, g3, g4, r⟩ := d
  cases h2 with
  | dr e =>
    have := g3 _ e
    subst this
    exact ⟨_, l, kvs, xs, vr, vc, vt, h1, g1, g2, g3, g4, r⟩
theorem dwGet_some {fl : DF} {w : Dw} {d : D} (h : dwGet fl w = some d) : w.on = true ∧ ((fl = .rest ∧ d = w.rest) ∨ (fl = .cells ∧ d = w.cells) ∨ (fl = .turn ∧ d = w.turn)) := by
  unfold dwGet at h
  split at h
  · rename_i on
    split at h <;> cases h
    · exact ⟨on, .inl ⟨rfl, rfl⟩⟩
    · exact ⟨on, .inr (.inl ⟨rfl, rfl⟩)⟩
    · exact ⟨on, .inr (.inr ⟨rfl, rfl⟩)⟩
  · cases h
theorem pe_dG {fl : DF} (n : NmX X i x) (hu : X.A.units + 65 < cLine) : PE X (.Subscript (.Name x p1) (.Constant (.str (keyD fl)) j p2) pos) (SE Z Wx G0 E0 fun ρ w => if isDr ρ[i]? then .opt ((dwGet fl w).map .v) w else .bad) :=
  PE.imp (pe_dget (by omega) (n.pe (p1 := p1)) pe_str noSl_str) fun σ H Q ⟨G, ρ, w, S, k⟩ => by
    dsimp only at k
    split at k
    · rename_i hd
      obtain ⟨r, e, k⟩ := out_opt.mp k
      cases q : dwGet fl w with
      | none => rw [q] at e; cases e
      | some d =>
        rw [q] at e
        cases e
        obtain ⟨on, hf⟩ := dwGet_some q
        obtain ⟨a, l, kvs, xs, vr, vc, vt, h1, g1, g2, g3, g4, h5, h6, h7, h8, h9, h10, h11, h12, h13, h14, h15⟩ := S.dr hd on
        refine ⟨_, h1, ?_⟩
        rcases hf with ⟨rfl, rfl⟩ | ⟨rfl, rfl⟩ | ⟨rfl, rfl⟩
        · exact ⟨a, vr, rfl, by have := DGet.k (k := .inr "rest") h5; rw [h8] at this; exact this, k.here S h13⟩
        · exact ⟨a, vc, rfl, by have := DGet.k (k := .inr "cells") h5; rw [h9] at this; exact this, k.here S h14⟩
        · exact ⟨a, vt, rfl, by have := DGet.k (k := .inr "turn") h5; rw [h10] at this; exact this, k.here S h15⟩
    · exact k.elim
/-- draw["large"] != [] -/
theorem pe_dL {p4 : Pos} (hK : X.K = Z.K) (n : NmX X i x) (hu : X.A.units + 65 < cLine) : PE X (.Compare (.Subscript (.Name x p1) (.Constant (.str "large") j p2) pos) [.NotEq] [.List [] p3] p4) (SE Z Wx G0 E0 fun ρ w => if isDr ρ[i]? && w.on then .opt ((eqD (.lst w.large) (.lst [])).map fun b => .v (.bl (!b))) w else .bad) :=
  PE.imp (pe_cmpR (op_neD (by omega)) (pe_dget (by omega) (n.pe (p1 := p1)) pe_str noSl_str) (pe_li (Z := Z) (Wx := Wx) (G0 := G0) (E0 := E0) pa_n) rfl) fun σ H Q ⟨G, ρ, w, S, k⟩ => by
    dsimp only at k
    split at k
    · rename_i hd
      rw [Bool.and_eq_true] at hd
      obtain ⟨r, e, k⟩ := out_opt.mp k
      cases q : eqD (.lst w.large) (.lst []) with
      | none => rw [q] at e; cases e
      | some b =>
        rw [q] at e
        cases e
        obtain ⟨p, q', e1, e2, s1, s2, rfl⟩ := eqD_some q
        obtain ⟨a, l, kvs, xs, vr, vc, vt, h1, g1, g2, g3, g4, h5, h6, h7, h8, h9, h10, h11, h12, h13, h14, h15⟩ := S.dr hd.1 hd.2
        refine ⟨_, h1, a, .ref l, rfl, by have := DGet.k (k := .inr "large") h5; rw [h7] at this; exact this, G, ρ, w, S, ?_⟩
        refine fun v G1 H1 x1 S1 r1 => ⟨p, q', ?_, by rw [hK]; exact r1.look S1.gl e2, s1, s2, (KE.trans x1 k).here S1 (.bl _)⟩
        obtain ⟨a', l', kvs', xs', vr', vc', vt', j1, i1, i2, i3, i4, j5, j6, j7, j8, j9, j10, j11, j12, _⟩ := S1.dr hd.1 hd.2
        have el : l = l' := i4 _ (x1.g _ _ g2)
        subst el
        have e1 : (D.lst w.large).py = some p := e1
        simp only [D.py] at e1
        cases q2 : D.pys w.large with
        | none => rw [q2] at e1; cases e1
        | some ps =>
          rw [q2] at e1
          cases e1
          rw [hK]
          exact .lst (SqL.of j11) (S1.gl.dps (RpL.dp j12 q2))
    · exact k.elim
/-- draw["large"].pop(0) -/
theorem pe_dP {apos cpos : Pos} {j0 : Nat} (n : NmX X i x) (hu : X.A.units + 65 < cLine) (hline : (apos.endLine == cpos.line) = true) : PE X (.Call (.Attribute (.Subscript (.Name x p1) (.Constant (.str "large") j p2) pos) "pop" apos) [.Constant (.int 0) j0 p3] [] cpos) (SE Z Wx G0 E0 fun ρ w => if isDr ρ[i]? && w.on then (match w.large with
      | d :: r => .ok (.v d) { w with large := r }
      | [] => .bad) else .bad) := by
  refine PE.imp (pe_bm PySem.F.plainAttrs_list PySem.F.slot_list_pop PySem.F.type_list_pop mt_popAt (pe_dget (by omega) (n.pe (p1 := p1)) pe_str noSl_str) (pa_cons (pe_int (i := 0) (j := j0) (pos := p3)) pa_nil) rfl rfl hline rfl rfl) fun σ H Q ⟨G, ρ, w, S, k⟩ => ?_
  dsimp only at k
  split at k
  · rename_i hd
    rw [Bool.and_eq_true] at hd
    obtain ⟨a, l, kvs, xs, vr, vc, vt, h1, g1, g2, g3, g4, h5, h6, h7, h8, h9, h10, h11, h12, h13, h14, h15⟩ := S.dr hd.1 hd.2
    cases ql : w.large with
    | nil => rw [ql] at k; exact k.elim
    | cons d r =>
      rw [ql] at k h12
      cases h12 with
      | @cons y ys _ _ ry rys =>
        refine ⟨_, h1, a, .ref l, rfl, by have := DGet.k (k := .inr "large") h5; rw [h7] at this; exact this, .inl ⟨rfl, _, SqL.of h11⟩, ?_⟩
        refine ⟨l, y :: ys, 0, 0, y, rfl, rfl, h11, by decide, by decide, by simp [seqIndex?], rfl, ?_⟩
        have la : l ≠ a := fun z => by rw [z, g1] at g2; cases g2
        obtain ⟨S2, x2⟩ := S.mark (w' := { w with large := r }) (u := .lst ys) g2 rfl h11 lst_code.1 lst_code.2 (by
          unfold DwOk
          rw [if_pos (show ({ w with large := r } : Dw).on = true from hd.2)]
          exact ⟨a, l, kvs, ys, vr, vc, vt, g1, g2, g3, g4, by rw [upd_ne (Ne.symm la)]; exact h5, h6, h7, h8, h9, h10, upd_same, rys, h13, h14, h15⟩)
        exact k y G _ x2 S2 ry
  · exact k.elim
/-- draw["rest"] = e -/
theorem ss_dS {e : Expr} {fl : DF} {pos' : Pos} (n : NmX X i x) (hu : X.A.units + 65 < cLine) (he : PE X e (SE Z Wx G0 E0 f)) (hs : swapsWith e (some (.Subscript (.Name x p1) (.Constant (.str (keyD fl)) j p2) pos')) pos.line X.env = pure false) :
    PS X (.Assign [.Subscript (.Name x p1) (.Constant (.str (keyD fl)) j p2) pos'] e pos) (SS Z Wx G0 E0 fun ρ w => (f ρ w).bind fun r w => match isDr ρ[i]?, r with
    | true, .v (.int k) => (match dwSet fl (.int k) w with
      | some w1 => .ok (ρ, .nx) w1
      | none => .bad)
    | _, _ => .bad) :=
  PS.imp (ps_dput (by omega) (n.pe (p1 := p1)) pe_str he hs) fun T σ H ⟨G, ρ, w, S, k⟩ => ⟨G, ρ, w, S, (out_bind.mp k).mono fun r w1 h1 v G1 H1 x1 S1 r1 => by
    cases hd : isDr ρ[i]? with
    | false => rw [hd] at h1; exact h1.elim
    | true =>
      rw [hd] at h1
      have h1' := h1
      clear h1
      obtain ⟨kk, rfl⟩ : ∃ k, r = .v (.int k) := by
        cases r with
        | v d =>
          cases d with
          | int k => exact ⟨k, rfl⟩
          | _ => exact h1'.elim
        | _ => exact h1'.elim
      have h1 : Out Z Wx G0 E0 (KS Z G0 E0 G T) (match dwSet fl (.int kk) w1 with
        | some w1 => .ok (ρ, .nx) w1
        | none => .bad) := h1'
      clear h1'
      cases qw : dwSet fl (.int kk) w1 with
      | none => simp only [qw] at h1; exact h1.elim
      | some w2 =>
        simp only [qw] at h1
        have r1 := rr_int r1
        subst r1
        unfold dwSet at qw
        split at qw
        case isFalse => cases qw
        rename_i on
        obtain ⟨a, l, kvs, xs, vr, vc, vt, q1, g1, g2, g3, g4, h5, h6, h7, h8, h9, h10, h11, h12, h13, h14, h15⟩ := S1.dr hd on
        have la : l ≠ a := fun z => by rw [z, g1] at g2; cases g2
        refine ⟨_, q1, ?_⟩
        have lz : kvs.length < sizeLine := by rw [sizeLine_eq]; omega
        have lp : ∀ (key : Key) (v : V) (y : V), valV kvs key = some y → (putK kvs key v).length ≤ 100 := fun key v y hy => by
          unfold putK
          rw [if_pos (by rw [valV_any, hy]; rfl), List.length_map]
          exact h6
        split at qw
        · cases qw
          refine ⟨a, _, rfl, DPut.k (k := .inr "rest") h5 lz, ?_⟩
          obtain ⟨S2, x2⟩ := S1.mark (w' := { w1 with rest := .int kk }) (u := .dK (putK kvs (.inr "rest") (.int kk))) g1 rfl h5 dk_code.1 dk_code.2 (by
            unfold DwOk
            rw [if_pos (show ({ w1 with rest := .int kk } : Dw).on = true from on)]
            refine ⟨a, l, putK kvs (.inr "rest") (.int kk), xs, .int kk, vc, vt, g1, g2, g3, g4, upd_same, lp _ _ _ h8, ?_, ?_, ?_, ?_, by rw [upd_ne la]; exact h11, h12, .int kk, h14, h15⟩ <;> rw [valV_put]
            · rw [if_neg (by decide)]; exact h7
            · rw [if_pos rfl]
            · rw [if_neg (by decide)]; exact h9
            · rw [if_neg (by decide)]; exact h10)
          exact h1 σ G1 _ x1.g S2
        · cases qw
          refine ⟨a, _, rfl, DPut.k (k := .inr "turn") h5 lz, ?_⟩
          obtain ⟨S2, x2⟩ := S1.mark (w' := { w1 with turn := .int kk }) (u := .dK (putK kvs (.inr "turn") (.int kk))) g1 rfl h5 dk_code.1 dk_code.2 (by
            unfold DwOk
            rw [if_pos (show ({ w1 with turn := .int kk } : Dw).on = true from on)]
            refine ⟨a, l, putK kvs (.inr "turn") (.int kk), xs, vr, vc, .int kk, g1, g2, g3, g4, upd_same, lp _ _ _ h10, ?_, ?_, ?_, ?_, by rw [upd_ne la]; exact h11, h12, h13, h14, .int kk⟩ <;> rw [valV_put]
            · rw [if_neg (by decide)]; exact h7
            · rw [if_neg (by decide)]; exact h8
            · rw [if_neg (by decide)]; exact h9
            · rw [if_pos rfl])
          exact h1 σ G1 _ x1.g S2
        · cases qw⟩
end
end VM
set_option Elab.async false
set_option linter.all false
set_option maxRecDepth 100000
/-! VmU: the making of the draws' dict. -/
namespace VM
open PySem PySem.Spec L2
section
variable {Z : Zed} {Wx : Value → Option Addr → Hp → Prop} {G0 E0 : Hp}
theorem sh_v {ρ : En} {i : Nat} {d : D} (h : (ρ.map Sl.sh)[i]? = some (Sl.v d)) : ρ[i]? = some (Sl.v d) := by
  rw [List.getElem?_map] at h
  cases q : ρ[i]? with
  | none => rw [q] at h; cases h
  | some s =>
    rw [q] at h
    cases s with
    | v e => exact h
    | no => cases h
    | own ds => cases h
theorem sh_own {ρ : En} {i : Nat} {ds : List D} : (ρ.map Sl.sh)[i]? ≠ some (Sl.own ds) := fun h => by
  rw [List.getElem?_map] at h
  cases q : ρ[i]? with
  | none => rw [q] at h; cases h
  | some s =>
    rw [q] at h
    cases s with
    | v e => cases h
    | no => cases h
    | own ds => cases h
theorem Stt.launch {G H : Hp} {σ : St} {ρ : En} {w : Dw} (S : Stt Z G0 E0 G H σ ρ w) (on : w.on = false) {p l : Addr} {xs : List V} {ds : List D} {kvs : List (Key × V)} {vr vc vt : V} {dr dc dt : D}
    (hp : H p = some (.dK [])) (gp : G p = none) (ep : E0 p = none) (hl : H l = some (.lst xs)) (gl : G l = none) (el : E0 l = none) (r : RpL Z G xs ds) (z : kvs.length ≤ 100) (k1 : valV kvs (.inr "large") = some (.ref l)) (k2 : valV kvs (.inr "rest") = some vr)
    (k3 : valV kvs (.inr "cells") = some vc) (k4 : valV kvs (.inr "turn") = some vt) (rr : Rp Z G vr dr) (rc : Rp Z G vc dc) (rt : Rp Z G vt dt) :
    Stt Z G0 E0 (upd (upd G l mkL) p mkD) (upd H p (.dK kvs)) σ (ρ.map Sl.sh) ⟨true, ds, dr, dc, dt⟩ ∧ Rp Z (upd (upd G l mkL) p mkD) (.ref p) .dr ∧ Sub G (upd (upd G l mkL) p mkD) := by
  have lp : l ≠ p := fun e => by rw [e, hp] at hl; cases hl
  have s1 : Sub G (upd (upd G l mkL) p mkD) := fun b o e => by rw [upd_ne (ne_of_none e gp), upd_ne (ne_of_none e gl)]; exact e
  have noMk : ∀ b o, G b = some o → isMk o = false := by
    have d := S.gl.dw
    unfold DwOk at d
    rw [if_neg (by rw [on]; decide)] at d
    exact d
  have what : ∀ b o, upd (upd G l mkL) p mkD b = some o → (b = p ∧ o = mkD) ∨ (b = l ∧ o = mkL) ∨ (b ≠ p ∧ b ≠ l ∧ G b = some o) := fun b o e => by
    by_cases q : b = p
    · rw [q, upd_same] at e
      cases e
      exact .inl ⟨q, rfl⟩
    · rw [upd_ne q] at e
      by_cases q2 : b = l
      · rw [q2, upd_same] at e
        cases e
        exact .inr (.inl ⟨q2, rfl⟩)
      · rw [upd_ne q2] at e
        exact .inr (.inr ⟨q, q2, e⟩)
  have hin : ∀ b, H b ≠ none → upd H p (.dK kvs) b ≠ none := fun b e => by
    by_cases q : b = p
    · rw [q, upd_same]; simp
    · rw [upd_ne q]; exact e
  refine ⟨⟨⟨fun b o e => s1 b o (S.nx.g b o e), fun b o e n m => ?_, fun b e => hin b (S.nx.dom b e), fun b e => ?_⟩, ⟨fun b o e n => ?_, fun b o e ps => ?_, fun b o e => ?_, fun b o e n => ?_, ?_, tabs_mut S.gl.tab hp dk_code.1 dk_code.2⟩, by rw [List.length_map]; exact S.len, fun i d e => ?_, fun i es e => absurd e sh_own, fun i j es es' a n e => absurd e sh_own⟩, .dr upd_same, s1⟩
  · rw [upd_ne (fun q => by rw [q, ep] at e; cases e)]
    exact S.nx.h b o e n m
  · cases q : upd (upd G l mkL) p mkD b with
    | none => exact absurd q e
    | some o =>
      rcases what b o q with ⟨q1, _⟩ | ⟨q1, _⟩ | ⟨_, _, q1⟩
      · rw [q1]; exact .inr ep
      · rw [q1]; exact .inr el
      · exact S.nx.new b (by rw [q1]; simp)
  · rcases what b o e with ⟨q1, q2⟩ | ⟨q1, q2⟩ | ⟨q0, _, q1⟩
    · rw [q2] at n; cases n
    · rw [q2] at n; cases n
    · rw [upd_ne q0]; exact S.gl.gok b o q1 n
  · rcases what b o e with ⟨q1, q2⟩ | ⟨q1, q2⟩ | ⟨q0, _, q1⟩
    · rw [q2]; intro z; cases z
    · rw [q2]; intro z; cases z
    · exact S.gl.gty b o q1 ps
  · rcases what b o e with ⟨q1, q2⟩ | ⟨q1, q2⟩ | ⟨q0, _, q1⟩
    · rw [q1]; exact hin p (by rw [hp]; simp)
    · rw [q1]; exact hin l (by rw [hl]; simp)
    · exact hin b (S.gl.gin b o q1)
  · rcases what b o e with ⟨q1, q2⟩ | ⟨q1, q2⟩ | ⟨q0, _, q1⟩
    · exact .inl q2
    · exact .inr q2
    · exact S.gl.mks b o q1 n
  · unfold DwOk
    rw [if_pos rfl]
    refine ⟨p, l, kvs, xs, vr, vc, vt, upd_same, by rw [upd_ne lp]; exact upd_same, fun b e => ?_, fun b e => ?_, upd_same, z, k1, k2, k3, k4, by rw [upd_ne lp]; exact hl, RpL.sub s1 r, Rp.sub s1 rr, Rp.sub s1 rc, Rp.sub s1 rt⟩
    · rcases what b _ e with ⟨q1, q2⟩ | ⟨q1, q2⟩ | ⟨q0, _, q1⟩
      · exact q1
      · cases q2
      · exact absurd (noMk b _ q1) (by decide)
    · rcases what b _ e with ⟨q1, q2⟩ | ⟨q1, q2⟩ | ⟨q0, _, q1⟩
      · cases q2
      · exact q1
      · exact absurd (noMk b _ q1) (by decide)
  · obtain ⟨v, h1, h2⟩ := S.val i d (sh_v e)
    exact ⟨v, h1, Rp.sub s1 h2⟩
theorem dwMk_some {a b c d : RV} {w5 : Dw} (h : dwMk a b c d = some w5) : ∃ (i : Nat) (ds : List D) (n1 : Int) (es : List D) (n2 : Int), a = .m i ds ∧ b = .v (.int n1) ∧ c = .n es ∧ d = .v (.int n2) ∧ w5 = ⟨true, ds, .int n1, .lst es, .int n2⟩ := by
  unfold dwMk at h
  split at h
  · cases h
    exact ⟨_, _, _, _, _, rfl, rfl, rfl, rfl, rfl⟩
  · cases h
variable {X : Cx} {pos pos' p1 p2 p3 p4 : Pos} {j1 j2 j3 j4 : Nat} {e1 e2 e3 e4 : Expr} {f1 f2 f3 f4 : En → Dw → Res RV}
theorem ss_retD (h1 : PE X e1 (SE Z Wx G0 E0 f1)) (h2 : PE X e2 (SE Z Wx G0 E0 f2)) (h3 : PE X e3 (SE Z Wx G0 E0 f3)) (h4 : PE X e4 (SE Z Wx G0 E0 f4)) :
    PS X (.Return (some (.Dict [some (.Constant (.str "large") j1 p1), some (.Constant (.str "rest") j2 p2), some (.Constant (.str "cells") j3 p3), some (.Constant (.str "turn") j4 p4)] [e1, e2, e3, e4] pos)) pos')
      (SS Z Wx G0 E0 fun ρ w => ((f1 ρ w).bind fun a w => ((f2 ρ w).bind fun b w => ((f3 ρ w).bind fun c w => ((f4 ρ w).bind fun d w => (Res.ok ([] : List RV) w).bind fun us w => .ok (d :: us) w).bind fun us w => .ok (c :: us) w).bind fun us w => .ok (b :: us) w).bind fun us w => .ok (a :: us) w).bind fun rs w =>
        if w.on then .bad else (match dwMake [.large, .rest, .cells, .turn] rs w with
      | some w => .ok (ρ.map Sl.sh, .rt (.v .dr)) w
      | none => .bad)) :=
  PS.imp (ps_ret (pe_disp (pps_cons pe_str h1 (pps_cons pe_str h2 (pps_cons pe_str h3 (pps_cons pe_str h4 pps_nil)))) rfl rfl (by simp) (by simp))) fun T σ H ⟨G, ρ, w, S, k⟩ => by
    intro p hp
    have gp := S.fresh hp
    have S1 := S.next (Nx.alloc (G := G) (o := HO.dK []) hp) (S.gl.alloc hp)
    have ep : E0 p = none := by
      cases q : E0 p with
      | none => rfl
      | some o => exact absurd hp (S.nx.dom p (by rw [q]; simp))
    refine ⟨G, ρ, w, S1, (out_bind.mp (out_bind.mp k)).mono fun a w1 k1 va G1 H1 x1 S1' ra => ?_⟩
    refine ⟨G1, ρ, w1, S1', (out_bind.mp (out_bind.mp k1)).mono fun b w2 k2 vb G2 H2 x2 S2 rb => ?_⟩
    refine ⟨G2, ρ, w2, S2, (out_bind.mp (out_bind.mp k2)).mono fun c w3 k3 vc G3 H3 x3 S3 rc => ?_⟩
    refine ⟨G3, ρ, w3, S3, (out_bind.mp (out_bind.mp k3)).mono fun d w4 k4 vd G4 H4 x4 S4 rd => ?_⟩
    have k4 : Out Z Wx G0 E0 (KS Z G0 E0 G T) (if w4.on then .bad else (match dwMake [.large, .rest, .cells, .turn] [a, b, c, d] w4 with
      | some w => .ok (ρ.map Sl.sh, .rt (.v .dr)) w
      | none => .bad)) := k4
    split at k4
    · exact k4.elim
    rename_i on
    have x14 := (x1.trans x2).trans (x3.trans x4)
    have h4p : H4 p = some (.dK []) := x14.h p _ upd_same (fun _ z => by cases z) (fun m z => by rw [gp] at z; cases z)
    cases qw : dwMake [.large, .rest, .cells, .turn] [a, b, c, d] w4 with
    | none => simp only [qw] at k4; exact k4.elim
    | some w5 =>
      simp only [qw] at k4
      obtain ⟨i, ds, n1, es, n2, rfl, rfl, rfl, rfl, rfl⟩ := dwMk_some qw
      have rb := rr_int rb
      have rd := rr_int rd
      subst rb rd
      obtain ⟨l, xs, rfl, hs, hi, hl, hr⟩ := ra
      obtain ⟨l', xs', hs', hl', gl', el', hr'⟩ := S4.own i ds hi
      rw [hs] at hs'
      cases hs'
      obtain ⟨lc, ys, rfl, hc, gc, h0c, hy⟩ := rc
      have x4' := x4
      have hc4 : H4 lc = some (.lst ys) := x4.h lc _ hc (fun _ z => by cases z) (fun m z => by rw [gc] at z; cases z)
      have gc4 : G4 lc = none := by
        cases q : G4 lc with
        | none => rfl
        | some o =>
          rcases x4.new lc (by rw [q]; simp) with z | z
          · exact absurd gc z
          · rw [hc] at z; cases z
      have lne : lc ≠ l := fun z => by
        subst z
        obtain ⟨l2, xs2, q1, q2, _⟩ := S2.own i ds hi
        rw [hs] at q1
        cases q1
        rw [h0c] at q2
        cases q2
      have e0c : E0 lc = none := by
        cases q : E0 lc with
        | none => rfl
        | some o => exact absurd h0c (S2.nx.dom lc (by rw [q]; simp))
      have sG := sub_upd (o := .lst ys) gc4
      have S5 : Stt Z G0 E0 (upd G4 lc (.lst ys)) H4 σ ρ w4 := by
        refine ⟨S4.nx.freeze gc4 e0c, S4.gl.freeze hc4 gc4 (fun _ z => by cases z) rfl, S4.len, fun i d e => ?_, fun j es e => ?_, S4.apt⟩
        · obtain ⟨v, q1, q2⟩ := S4.val i d e
          exact ⟨v, q1, Rp.sub sG q2⟩
        · obtain ⟨b, zs, q1, q2, q3, q4, q5⟩ := S4.own j es e
          refine ⟨b, zs, q1, q2, ?_, q4, RpL.sub sG q5⟩
          rw [upd_ne]
          · exact q3
          · intro z
            subst z
            obtain ⟨l2, xs2, p1, p2, _⟩ := S2.own j es e
            rw [q1] at p1
            cases p1
            rw [h0c] at p2
            cases p2
      have gp4 : G4 p = none := by
        cases q : G4 p with
        | none => rfl
        | some o =>
          rcases x14.new p (by rw [q]; simp) with z | z
          · exact absurd gp z
          · rw [upd_same] at z; cases z
      have pc : p ≠ lc := fun z => by rw [z, hc4] at h4p; cases h4p
      refine ⟨h4p, [(.inr "large", .ref l), (.inr "rest", .int n1), (.inr "cells", .ref lc), (.inr "turn", .int n2)], rfl, by simp, ?_⟩
      have kv4 : Nat → valV (mergeK [] [(.inr "large", .ref l), (.inr "rest", .int n1), (.inr "cells", .ref lc), (.inr "turn", .int n2)]) (.inr "large") = some (V.ref l) ∧ valV (mergeK [] [(.inr "large", .ref l), (.inr "rest", .int n1), (.inr "cells", .ref lc), (.inr "turn", .int n2)]) (.inr "rest") = some (V.int n1) ∧
          valV (mergeK [] [(.inr "large", .ref l), (.inr "rest", .int n1), (.inr "cells", .ref lc), (.inr "turn", .int n2)]) (.inr "cells") = some (V.ref lc) ∧ valV (mergeK [] [(.inr "large", .ref l), (.inr "rest", .int n1), (.inr "cells", .ref lc), (.inr "turn", .int n2)]) (.inr "turn") = some (V.int n2) := fun _ => by
        unfold mergeK
        simp only [List.foldl_cons, List.foldl_nil]
        refine ⟨?_, ?_, ?_, ?_⟩
        · rw [valV_put, if_neg (by decide), valV_put, if_neg (by decide), valV_put, if_neg (by decide), valV_put, if_pos rfl]
        · rw [valV_put, if_neg (by decide), valV_put, if_neg (by decide), valV_put, if_pos rfl]
        · rw [valV_put, if_neg (by decide), valV_put, if_pos rfl]
        · rw [valV_put, if_pos rfl]
      obtain ⟨S6, r6, s6⟩ := S5.launch (p := p) (l := l) (kvs := mergeK [] [(.inr "large", .ref l), (.inr "rest", .int n1), (.inr "cells", .ref lc), (.inr "turn", .int n2)]) (vr := .int n1) (vc := .ref lc) (vt := .int n2) (dr := .int n1) (dc := .lst es) (dt := .int n2)
        (by cases h : w4.on <;> simp_all) h4p (by rw [upd_ne pc]; exact gp4) ep hl' (by rw [upd_ne (Ne.symm lne)]; exact gl') el' (RpL.sub sG hr') (Nat.le_trans (length_mergeK _ _) (by simp)) (kv4 1).1 (kv4 1).2.1 (kv4 1).2.2.1 (kv4 1).2.2.2 (.int _) (.lst upd_same (RpL.sub sG (RpL.sub x4.g hy))) (.int _)
      exact k4 (.ref p) σ _ _ (fun b o e => s6 b o (sG b o (x14.g b o e))) S6 r6
end
end VM
set_option Elab.async false
set_option linter.all false
set_option maxRecDepth 100000
/-! VmV: an own exception whose __init__ says super().__init__(text) and keeps one field. -/
namespace VM
open PySem PySem.Spec PySem.Calls PyProof.Rows PySem.W L2
/-- the text of such an __init__ -/
def initBody (msg slf f x : Str) (j : Nat) (p0 p1 p2 p3 p4 p5 q0 q1 q2 q3 : Pos) : List Stmt :=
  [.Expr (.Call (.Attribute (.Call (.Name "super" p0) [] [] p1) "__init__" p2) [.Constant (.str msg) j p3] [] p4) p5,
   .Assign [.Attribute (.Name slf q0) f q1] (.Name x q2) q3]
/-- how super().__init__(text) is evaluated: it hangs on the places alone -/
def SupEv (msg : Str) (j : Nat) (p0 p1 p2 p3 p4 : Pos) : Prop := ∀ env : Env, ∃ pl : Sem Bool, eval (.Call (.Attribute (.Call (.Name "super" p0) [] [] p1) "__init__" p2) [.Constant (.str msg) j p3] [] p4) env = (do
      let ov ← attributeBase (.Call (.Name "super" p0) [] [] p1) "__init__" env (eval (.Call (.Name "super" p0) [] [] p1) env)
      standAt p2.atName
      let (f, first) ← holding [ov] (getMethod ov "__init__" pl)
      callWith p4 f first (backTo p4 (starEach [.Constant (.str msg) j p3] env)) [])
/-- what is to be known of the class and its __init__ -/
structure InitC (P : Program) (K : Frag) (C fI : Addr) (f x : Str) : Prop where
  T : OexC K C
  iC : findIn K (.ref C) "__init__" = some (some (.ref fI))
  tI : typeIn K (.ref fI) = some (.type "function")
  no : findIn K (.ref C) f = some none
  sup : ks_superIn K C C "__init__" = some (some (.builtin "ValueError.__init__"))
  isV : subIn K (.ref C) (.type "ValueError") = some true
  self : mroIn K C (.ref C) = some true
  opq : nsIn K cStatics "thirdparty.any" = some none
  sp : nsIn K mainGlobals "super" = some none
  top : (P.main.scope.names.lookup ("super" : Str)).isSome = false
  fn : ∃ (name qual : Str) (params : Arguments) (scope : Scope) (dV kV doc pm ct oc : Value) (an od : Option Addr) (osl : Array (Option Value)) (cda cc : Addr) (msg slf : Str) (j : Nat) (p0 p1 p2 p3 p4 p5 q0 q1 q2 q3 : Pos) (vs : Array Value) (file : Str) (tf : Tok)
      (ccl cl : Value) (cdd cld : Option Addr) (ccs csl : Array (Option Value)) (ar : Arg),
    K.lookup fI = some ⟨oc, od, .func (ksFn name qual params (initBody msg slf f x j p0 p1 p2 p3 p4 p5 q0 q1 q2 q3) scope dV kV doc pm an (.ref cda) ct cc), osl⟩ ∧ codeIn K (.ref cda) qual = true ∧
    K.lookup cda = some ⟨ccl, cdd, .fields vs, ccs⟩ ∧ vs[2]? = some (.str file tf) ∧ ((P.main.file : Str) == file) = true ∧ K.lookup cc = some ⟨cl, cld, .cell (some (.ref C)), csl⟩ ∧
    (params.posonlyargs ++ params.args).head? = some ar ∧ ar.arg = slf ∧ slf ≠ x ∧ (slf == ("__debug__" : Str)) = false ∧ (x == ("__debug__" : Str)) = false ∧
    (∀ u v : Value, bindArgs (ksFn name qual params (initBody msg slf f x j p0 p1 p2 p3 p4 p5 q0 q1 q2 q3) scope dV kV doc pm an (.ref cda) ct cc) ⟨[u, v], []⟩ = pure [(slf, u), (x, v)]) ∧
    (∀ y ∈ scope.names, y.2 ≠ .cell) ∧ scope.isCoroutine = false ∧ scope.isGenerator = false ∧ scope.kind = .function ∧
    scope.names.lookup ("super" : Str) = some .globalImplicit ∧ scope.names.lookup ("__class__" : Str) = some .free ∧ scope.names.lookup slf = some .local ∧ scope.names.lookup x = some .local ∧ SupEv msg j p0 p1 p2 p3 p4
section
variable {prog : Program} {w : World} {A : Around} {s : Shared} {R : Result → Shared → Prop} {K : Frag} {C fI e t0 : Addr} {f x : Str} {part : Value} {mg mb : Str → Option Value}
theorem init_run (I : InitC prog K C fI f x) (KX : K.In s.heap) (hg : s.heap.Ns mainGlobals mg) (hb : s.heap.Ns builtinsNs mb) (hbb : ∀ y : Str, y ≠ "__name__" → mb y = bootBuiltins y) (lim : s.heap.NoLimit) (he : s.heap.get? e = some (PySem.HandSPX.excO C t0)) (ke : K.lookup e = none) (hr : A.depth + 1 < recursionLimit)
    (h : ∀ (h' : Heap) (tk' : Nat) (dx tt : Addr), (∀ b o, b ≠ e → s.heap.get? b = some o → h'.get? b = some o) → s.heap.get? dx = none → dx ≠ e → h'.get? e = some { cls := .ref C, dict := some dx, data := .fields #[.ref tt, .none, .none, .none, .bool false, .none] } →
      h'.Ns1 dx (fun y => if y = f then some part else none) → R (.ok (.ret .none)) { s with heap := h', toks := tk' }) :
    codeAny (model prog w) A (.call (.ref fI) ⟨[.ref e, part], []⟩) R s := by
  obtain ⟨name, qual, params, scope, dV, kV, doc, pm, ct, oc, an, od, osl, cda, cc, msg, slf, j, p0, p1, p2, p3, p4, p5, q0, q1, q2, q3, vs, file, tf, ccl, cl, cdd, cld, ccs, csl, ar, lk, hcd, hcode, hvs, hfile, hcell, hpar, har, hne, hd1, hd2, hbind, hcl, hco, hgen, hk, hks, hkc, hka, hkx, hev⟩ := I.fn
  obtain ⟨nm, q, N, bs, bm, sn, sub, ab, col, dd, k0, k1, k2, k3, k5, hC, hbm⟩ := I.T.cls
  refine ks_codeAny_call_defAt (fd := ksFn name qual params (initBody msg slf f x j p0 p1 p2 p3 p4 p5 q0 q1 q2 q3) scope dV kV doc pm an (.ref cda) ct cc) (binds := [(slf, .ref e), (x, part)]) (by omega) (KX _ _ lk) rfl lim (codeRec_of KX hcd) rfl (BindsTo.of_eq (hbind _ _)) hcl (fun y hy => ?_) (fun h₁ hns hk₁ => ?_) hco hgen hk
  · rcases List.mem_cons.mp hy with e1 | hy
    · rw [e1]; exact hka
    · rcases List.mem_cons.mp hy with e1 | hy
      · rw [e1]; exact hkx
      · cases hy
  have X1 : K.In h₁ := KX.keeps hk₁
  have vS : (fun y => ([(slf, Value.ref e), (x, part)] : List (Str × Value)).reverse.lookup y) slf = some (.ref e) := by
    show List.lookup slf [(x, part), (slf, Value.ref e)] = _
    rw [List.lookup_cons, show (slf == x) = false from beq_eq_false_iff_ne.mpr hne, List.lookup_cons, show (slf == slf) = true from by simp]
  have vX : (fun y => ([(slf, Value.ref e), (x, part)] : List (Str × Value)).reverse.lookup y) x = some part := by
    show List.lookup x [(x, part), (slf, Value.ref e)] = _
    rw [List.lookup_cons, show (x == x) = true from by simp]
  have he1 := hk₁ _ _ he
  have hcls : clsIn K C = some { name := nm, bases := bs, mro := .ref C :: bm, ns := N, qualname := q, hasDict := true, slotNames := sn, subclasses := sub, abstract := ab, collection := col, hasDel := false } := by unfold clsIn; rw [hC] <;> rfl
  have hD1 := X1 _ _ hC
  obtain ⟨L, hL⟩ : ∃ L, L = s.heap.objs.size := ⟨_, rfl⟩
  rw [← hL] at hns ⊢
  show _root_.PySem.wpAt (model prog w) (A.deeper (ksEnv qual scope L fI (.ref cda) cc)) (.func (initBody msg slf f x j p0 p1 p2 p3 p4 p5 q0 q1 q2 q3) (ksEnv qual scope L fI (.ref cda) cc)) (execs (initBody msg slf f x j p0 p1 p2 p3 p4 p5 q0 q1 q2 q3) (ksEnv qual scope L fI (.ref cda) cc)) _ _ _
  obtain ⟨pl, hev⟩ := hev (ksEnv qual scope L fI (.ref cda) cc)
  refine ks_wpAt_execs_cons (ks_wpAt_Expr_any (ks_wpAt_MethodCall ?_ hev) (by unfold interactive; rw [show (ksEnv qual scope L fI (.ref cda) cc).scope.kind = .function from hk]; first | rfl | simp) rfl)
  refine ks_wpAt_super_base (env := ksEnv qual scope L fI (.ref cda) cc) hks hkc (by decide) rfl (X1 _ _ lk) rfl hpar rfl (X1 _ _ hcode) rfl hvs hfile I.top ?_
  refine ks_loadName_global hk hks (loadGlobal_builtin (env := ksEnv qual scope L fI (.ref cda) cc) (hg.keeps hk₁) (mg_none_of KX hg I.sp) (hb.keeps hk₁) ((hbb _ (by decide)).trans (show bootBuiltins "super" = some (.type "super") from by decide +kernel)) ⟨rfl, ?_⟩)
  refine wpAny_loadName_free hk hkc rfl ⟨_, X1 _ _ hcell, rfl⟩ ?_
  rw [har]
  refine wpAny_loadName_local hk hka hns vS ?_
  refine ks_wpAny_isType_cls hD1 rfl ⟨rfl, ?_⟩
  refine ks_wpAny_call_super hD1 rfl he1 rfl (fun c z => by cases z) (looks_mroIn X1 I.self) (fun h2 e2 k2 => ?_)
  have X2 : K.In h2 := X1.keeps k2
  have he2 := k2 _ _ he1
  have inst2 : InstAt h2 e (PySem.HandSPX.excO C t0) C none := ⟨he2, rfl, rfl, trivial⟩
  have hm : alongIn K "__init__" ((({ name := nm, bases := bs, mro := .ref C :: bm, ns := N, qualname := q, hasDict := true, slotNames := sn, subclasses := sub, abstract := ab, collection := col, hasDel := false } : ClassData).mro.dropWhile (· != .ref C)).drop 1) = some (some (.builtin "ValueError.__init__")) := by
    have z := I.sup
    unfold ks_superIn at z
    rw [hcls] at z
    exact z
  refine kxs_getMethod kxs_ValueError e2 (looks_opaque X2 I.opq) (l₀ := .ref C :: bm) (fun A Q E s k q => wpAny_bind ((looks_clsIn X2 hcls) A _ E s k (wpAny_pure q))) rfl X2 hm (inst2.type.andThen (looks_subIn X2 I.isV)) (ks_ne X2 inst2 hcls) (by decide) ?_
  have hu : (h2.push (kxs_mw "ValueError.__init__" e)).get? h2.objs.size = some (kxs_mw "ValueError.__init__" e) := Heap.get?_push_size _ rfl
  have k3 : ∀ b o, h₁.get? b = some o → (h2.push (kxs_mw "ValueError.__init__" e)).get? b = some o := fun b o z => Heap.get?_push_of_some _ (k2 b o z)
  generalize hh3 : h2.push (kxs_mw "ValueError.__init__" e) = h3 at hu k3 ⊢
  generalize h2.objs.size = u at hu ⊢
  show wpAny _ _ (callWith p4 (.ref u) [] (backTo p4 ((false, eval (.Constant (.str msg) j p3) (ksEnv qual scope L fI (.ref cda) cc)) :: [])) []) _ _ _
  refine kxs_callWith (i := "ValueError.__init__") (u := u) (x := e) rfl (evalArgs_plain (spliced_cons (Constant_str (k := j) (pos := p3) (spliced_nil ⟨hu, ?_⟩))))
  have hC3 := k3 _ _ hD1
  have he3 := k3 _ _ he1
  show wpAny _ _ (call (.ref u) [_]) _ _ _
  refine wpAny_call (codeAny_of_tree ?_)
  show wpAny _ _ (callAny (.ref u) ⟨[_], []⟩) _ _ _
  simp only [callAny]
  refine wpAny_bind (wpAny_load hu ?_)
  simp only [kxs_mw, show (Value.type "method-wrapper" == Value.type "method" || Value.type "method-wrapper" == Value.type "builtin_function_or_method" || Value.type "method-wrapper" == Value.type "method-wrapper") = true by decide, if_true]
  refine KFB.if_so (by decide) ?_
  refine wpAny_bind (check_bound_init F.excBase_ValueError.toExcCallFacts hC3 he3 rfl ?_)
  refine wpAny_bind (wpAny_pure (wpAny_pure ?_))
  refine ⟨plainId_quiet F.excBase_ValueError.init.plain _, codeAny_builtin F.excBase_ValueError.initEntry ?_⟩
  refine exc_init_tree (cls := .ref C) (t0 := t0) (dv := none) (c2 := .none) (c3 := .none) (b4 := .bool false) he3 (by show 1 ≤ sizeLine; rw [sizeLine_eq]; omega) (fun h4 k4 e4 _ => ?_)
  have ne : ∀ {b o}, K.lookup b = some o → b ≠ e := fun {b o} z q => by rw [q, ke] at z; cases z
  have X4 : K.In h4 := fun b o z => k4 b o (ne z) (k3 _ _ (X1 _ _ z))
  have hLlt : L < h₁.objs.size := by
    obtain ⟨o, es, ep, z, _⟩ := hns
    exact Heap.lt_size z
  have eL : L ≠ e := fun z => by
    have := Heap.lt_size he
    rw [z] at hL
    rw [← hL] at this
    exact Nat.lt_irrefl _ this
  have hns4 : h4.Ns L (fun y => ([(slf, Value.ref e), (x, part)] : List (Str × Value)).reverse.lookup y) := by
    obtain ⟨o, es, ep, z, rest⟩ := hns
    exact ⟨o, es, ep, k4 _ _ eL (k3 _ _ z), rest⟩
  show _root_.PySem.wpAt _ _ _ (execs [_] _) _ _ _
  refine ks_wpAt_execs_cons (ks_wpAt_Assign_Attr ?_ rfl)
  refine wpAt_of_wpAny (wpAny_Name (wpAny_loadName_local hk hkx hns4 vX ?_) hd2)
  refine wpAny_Name (wpAny_loadName_local hk hka hns4 vS ?_) hd1
  refine set_plain X4 (ox := { cls := .ref C, dict := none, data := .fields #[.ref h3.objs.size, .none, .none, .none, .bool false, .none] }) (od := none) ⟨e4, rfl, rfl, trivial⟩ I.T.sa ?_
  refine PySem.HandSPX.exc_osa X4 e4 hcls hbm rfl I.no (fun h5 tk5 dx k5 dn dne hx5 hn5 => ?_)
  refine wpAt_of_wpAny (wpAny_execs_nil ?_)
  refine h h5 tk5 dx _ (fun b o hb z => k5 b o hb (k4 b o hb (k3 _ _ (hk₁ _ _ z)))) ?_ dne hx5 hn5
  cases z : s.heap.get? dx with
  | none => rfl
  | some o => exact absurd (Heap.lt_size (k4 dx o dne (k3 _ _ (hk₁ _ _ z)))) (Nat.not_lt.mpr dn)
end
section
variable {X : Cx} {C fI : Addr} {f x' x : Str} {e : Expr} {te : TE} {p pos : Pos}
theorem pmk_init (IC : InitC X.prog X.K C fI f x') (hr : Room 1 X.A) (hg : Gl X x) (hm : X.mg x = some (.ref C)) (ha : PE X e te) (hdb : (x == ("__debug__" : Str)) = false) (he : starEach [e] X.env = (false, eval e X.env) :: starEach [] X.env) :
    PMk X (.Call (.Name x p) [e] [] pos) (fun σ H Q => te σ H fun v H1 => ∀ d, H1 d = none → Q (.ref C) (some d) (upd H1 d (.xd [(f, v)]))) := by
  intro pins s σ H Q I h
  obtain ⟨nm, q, N, bs, bm, sn, sub, ab, col, dd, k0, k1, k2, k3, k5, hC, hbm⟩ := IC.T.cls
  refine wpAny_Call_Name_kw (ld_glob I hg hm ?_ hdb)
  refine PySem.W.callWith_K (h₀ := X.base) I.ok.mod.kin IC.T.kC ?_ he (by rfl)
  rw [he]
  show wpAny _ _ (spliced ((false, eval e X.env) :: backTo pos (starEach [] X.env))) _ _ s
  refine Calls.spliced_cons (thn (ha.run pins s σ H _ I h) fun u s1 ⟨v, H1, I1, r1, q1⟩ => ?_)
  refine Calls.spliced_nil ⟨I1.kIn, ?_⟩
  show wpAny _ _ (call (.ref C) [u]) _ _ _
  obtain ⟨hp, g, dr, tk, os⟩ := s1
  have hsz : hp.objs.size ≤ hp.objs.size + 1 := Nat.le_succ _
  have hn : H1 (hp.objs.size + 1) = none := I1.hok.fresh hsz
  have kk : ∀ b o, hp.get? b = some o → ((hp.push (PySem.W.kdv_tup [u])).push (PySem.HandSPX.excO C hp.objs.size)).get? b = some o := fun b o e => Heap.get?_push_of_some _ (Heap.get?_push_of_some _ e)
  have hget : ((hp.push (PySem.W.kdv_tup [u])).push (PySem.HandSPX.excO C hp.objs.size)).get? (hp.objs.size + 1) = some (PySem.HandSPX.excO C hp.objs.size) := by heap_get
  have I2 : Inv X pins σ (upd H1 (hp.objs.size + 1) (exo (hp.objs.size + 1) C none)) ⟨(hp.push (PySem.W.kdv_tup [u])).push (PySem.HandSPX.excO C hp.objs.size), g, dr, tk, os⟩ :=
    I1.laid (t' := tk) (a := hp.objs.size + 1) (o := exo (hp.objs.size + 1) C none) (h' := (hp.push (PySem.W.kdv_tup [u])).push (PySem.HandSPX.excO C hp.objs.size)) kk hsz (exo_ok hget)
  obtain ⟨mb, hb1, hb2⟩ := I.ok.mod.blt
  have kb : ∀ b o, X.base.get? b = some o → ((hp.push (PySem.W.kdv_tup [u])).push (PySem.HandSPX.excO C hp.objs.size)).get? b = some o := fun b o e => I2.bk b o e
  refine wpAny_call (PySem.HandSPX.call_own F.excBase_ValueError (fun Y => PySem.HandSPX.refsVE_contains Y bm hbm) (I1.kIn _ _ hC) (PySem.W.looks_findIn I1.kIn IC.iC) (fun self => PySem.W.bind_fn I1.kIn self IC.tI) (by show 1 ≤ sizeLine; rw [sizeLine_eq]; omega)
    (codeAny_mono (init_run (R := fun r s' => r = .ok (.ret .none) ∧ MkP X pins σ Q (.ref (hp.objs.size + 1)) s') IC I2.kIn (I.ok.mod.glob.keeps kb) (hb1.keeps kb) hb2 (I.ok.mod.nolimit.keeps kb) hget ?ke ?dep fun h' tk' dx tt k hdx dne hx hns => ⟨rfl, ?_⟩) fun r s' hq => ?_))
  case ke =>
    cases z : X.K.lookup (hp.objs.size + 1) with
    | none => rfl
    | some o => exact absurd (Heap.lt_size (I1.kIn _ _ z)) (Nat.not_lt.mpr hsz)
  case dep => have := hr.dp; rw [make_depth]; omega
  · have hda : H1 dx = none := by
      refine I1.hok.gone ?_
      cases z : hp.get? dx with
      | none => rfl
      | some o => rw [kk _ _ z] at hdx; cases hdx
    have e2 : (upd H1 (hp.objs.size + 1) (exo (hp.objs.size + 1) C none)) (hp.objs.size + 1) = some (exo (hp.objs.size + 1) C none) := upd_same
    generalize hH2 : upd H1 (hp.objs.size + 1) (exo (hp.objs.size + 1) C none) = H2 at I2 e2
    generalize hp3 : (hp.push (PySem.W.kdv_tup [u])).push (PySem.HandSPX.excO C hp.objs.size) = h3 at I2 k hdx kk
    have hnd : H2 dx = none := by rw [← hH2, upd_ne dne]; exact hda
    have na : ∀ {b : Addr}, H2 b = none → b ≠ hp.objs.size + 1 := fun {b} n z => by
      rw [z, e2] at n
      cases n
    have nd : ∀ {b : Addr} {o : Obj}, h3.get? b = some o → b ≠ dx := fun {b o} q z => by
      rw [z, hdx] at q
      cases q
    have Un1 : Un (frs X.stack) [] H2 (upd (upd H2 dx (exd dx [(f, v)])) (hp.objs.size + 1) (exo (hp.objs.size + 1) C (some dx))) h3 h' := {
      keep := fun b o q n _ _ => k b o (na n) q
      slot := fun b o q n _ _ => ⟨o.slots, k b o (na n) q⟩
      free := fun b o q n _ => by rw [upd_ne (na n), upd_ne (nd q)]; exact n
      there := fun b o q _ => by
        by_cases hb : b = hp.objs.size + 1
        · exact ⟨_, by rw [hb]; exact hx⟩
        · exact ⟨o, k b o hb q⟩
      tups := fun b xs q => by rw [upd_ne (at_ne e2 q exo_tup), upd_ne (ne_of_none q hnd)]; exact q
      frzs := fun b o v q => by rw [upd_ne (at_ne e2 q exo_frz), upd_ne (ne_of_none q hnd)]; exact q
      tbls := fun b ps q => ⟨#[], by rw [upd_ne (at_ne e2 q exo_tbl), upd_ne (ne_of_none q hnd), q]; simp⟩ }
    have ok2 : HOk X.prog X.w (upd (upd H2 dx (exd dx [(f, v)])) (hp.objs.size + 1) (exo (hp.objs.size + 1) C (some dx))) h' := fun b o q => by
      by_cases hb : b = hp.objs.size + 1
      · subst hb
        rw [upd_same] at q
        cases q
        exact exo_ok hx
      · rw [upd_ne hb] at q
        by_cases hd : b = dx
        · subst hd
          rw [upd_same] at q
          cases q
          exact exd_ok hns (relO_put (fs := []) r1 fun g => True.intro)
        · rw [upd_ne hd] at q
          exact (I2.hok b o q).stay (fun c v hc z => k c v (by
              rcases hc with hc | hc
              · rw [hc]
                exact hb
              · exact at_ne e2 hc exo_own) z)
            (fun c hc => by rw [upd_ne (at_ne e2 hc exo_own), upd_ne (ne_of_none hc hnd)]; exact hc) (fun c xs hc => by rw [upd_ne (at_ne e2 hc exo_tup), upd_ne (ne_of_none hc hnd)]; exact hc)
    have fin := mk_end (d2 := dr) (t2 := tk') (g2 := g) (Q := Q) (raises_own IC.T.exC IC.T.tyC) I1 hsz kk (by rw [hH2]; exact Un1) ok2 rfl I1.bare upd_same (by rw [upd_ne dne]; exact upd_same) hda
      (by
        have e9 : upd (del (upd (upd H2 dx (exd dx [(f, v)])) (hp.objs.size + 1) (exo (hp.objs.size + 1) C (some dx))) (hp.objs.size + 1)) dx (.xd [(f, v)]) = upd H1 dx (.xd [(f, v)]) := by
          funext b
          by_cases z : b = dx
          · rw [z, upd_same, upd_same]
          · rw [upd_ne z, upd_ne z]
            by_cases z2 : b = hp.objs.size + 1
            · rw [z2, del_same, hn]
            · rw [del_ne z2, upd_ne z2, upd_ne z, ← hH2, upd_ne z2]
        rw [e9]
        exact q1 dx hda)
    exact fin
  · obtain ⟨rfl, hq⟩ := hq
    exact ⟨rfl, hq⟩
end
end VM
set_option Elab.async false
set_option linter.all false
set_option maxRecDepth 100000
/-! VmW: a caught exception that is kept: except x as n: y = n. -/
namespace VM
open PySem PySem.Spec L2
section
variable {X : Cx} {pins : List (Addr × Obj)} {σ : St} {H : Hp} {s : Shared}
/-- an exception's object that is new since the entry is told of -/
theorem Inv.track {a : Addr} {oe : Obj} {vs : Array Value} {cls : Value} {d : Option Addr} (I : L2.Inv X pins σ H s) (ha : s.heap.get? a = some oe) (hz : Zc cls d oe) (hd : oe.data = .fields vs) (hn : H a = none) (h0 : X.s_0.heap.get? a = none) (hL : a ≠ X.env.locals)
    (hp : ∀ p ∈ X.pn ++ pins, p.1 ≠ a) : L2.Inv X pins σ (upd H a (ExV cls d a)) s := by
  refine ⟨I.ok, I.os, I.bare, ?_, I.loc, I.cell, by rw [upd_ne (Ne.symm hL)]; exact I.free, fun x c e => ?_, fun p q => ?_, ?_, I.len⟩
  · exact ⟨I.base.keep, I.base.slot, fun b o e n hx => by
      rw [upd_ne (fun z => by rw [z, h0] at e; cases e)]
      exact I.base.free b o e n hx, I.base.there, fun b xs e => by
      have q := I.base.tups b xs e
      rw [upd_ne (ne_of_none q hn)]
      exact q, fun b o u e => by
      have q := I.base.frzs b o u e
      rw [upd_ne (ne_of_none q hn)]
      exact q, fun b ps e => by
      obtain ⟨more, q⟩ := I.base.tbls b ps e
      exact ⟨more, by rw [upd_ne (ne_of_none q hn)]; exact q⟩⟩
  · rw [upd_ne]
    · exact I.freeC x c e
    · intro z
      obtain ⟨v, o, ho, hdc⟩ := I.cell x c e
      rw [z, ha] at ho
      cases ho
      rw [hd] at hdc
      cases hdc
  · obtain ⟨h1, h2, h3⟩ := I.pin p q
    exact ⟨h1, by rw [upd_ne (hp p q)]; exact h2, h3⟩
  · exact I.hok.laidN (fun _ _ e => e) hn ⟨⟨oe, vs, ha, hz.1, hz.2, hd⟩, ⟨oe, ha⟩, fun h1 h2 ⟨o, v, q, r⟩ k => ⟨o, v, k o q, r⟩⟩
end
def wKeep (K : PySem.W.Frag) (c : Value) (i j m : Nat) (D : Ends) : WX := fun cls d σ H =>
  PySem.W.exmOne K cls c = some true ∧ ∀ a, H a = none → σ.length = m → D.nx (((σ.set i (some (V.ref a))).set j (some (V.ref a))).set i none) (upd H a (ExV cls d a))
section
variable {X : Cx} {x n y : Str} {c : Value} {i j : Nat} {body : List Stmt} {np np2 yp ap pos pos' : Pos} {tb : WX → TS}
theorem ps_try_keep (hs : X.stack = X.env :: X.outer) (hf : X.env.frame = some X.env.locals) (hN : X.N.Nodup) (hi : X.N[i]? = some n) (hln : X.env.kindOf n = some .local) (hj : X.N[j]? = some y) (hly : X.env.kindOf y = some .local) (hc : Names X x c) (hil : i < X.N.length) (hex : X.ex = [])
    (hnd : (n == ("__debug__" : Str)) = false) (hncd : (n == ("__classdict__" : Str)) = false)
    (hb : ∀ (W : WX) (pn : List (Addr × Obj)) (xe : Value → Shared → Prop), Takes (X.tr pn xe) W → PassesOwn (model X.prog X.w) X.A X.env xe → PSs (X.tr pn xe) body (tb W)) :
    PS X (.Try body [.ExceptHandler (some (.Name x np)) (some n) [.Assign [.Name y yp] (.Name n np2) ap] pos'] [] [] pos) (fun D σ H => tb (wKeep X.K c i j X.N.length D) D σ H) := by
  refine ⟨fun pins s σ H D I h => ?_⟩
  have ok := I.ok
  have hfr : X.A.frames = some (X.env :: X.outer) := by rw [ok.frames, hs]
  have hloc : L2.Loc X.env.scope n := .inl hln
  refine wpAny_Try_except ?_
  refine wpAny_mono ((hb (wKeep X.K c i j X.N.length D) (X.pn ++ pins) (fun e s₁ => wpAny (model X.prog X.w) X.A (noteFrame e X.env) (fun _ s₂ => wpAny (model X.prog X.w) X.A (setFlight e none) (fun _ s₃ =>
    wpAny (model X.prog X.w) X.A (handleBy e X.env [.ExceptHandler (some (.Name x np)) (some n) [.Assign [.Name y yp] (.Name n np2) ap] pos']) (SP X pins D) X.xe s₃) X.xe s₂) X.xe s₁) (fun u s' xx => ?_) PassesOwn.looking).run [] s σ H D (I.toTry _) h) (fun f s1 hsp => ?_) (fun e s1 he => he)
  · obtain ⟨a, B, sI, pins', σ', H', cls, d, rfl, J', nb, up, sky, na, os, ag, hb1, hyes⟩ := xx
    have J : L2.Inv X pins σ' H' sI := J'.ofTry ok
    have sky' : Sky B (X.env :: X.outer) a (Zc cls d) X.env.locals s'.heap := by rw [← hs]; exact sky
    show wpAny (model X.prog X.w) X.A (noteFrame (.ref a) X.env) _ _ _
    refine Sky.land Zc.steady hfr hf sky' fun h3 fl3 up3 => ?_
    have J3 : L2.Inv X pins σ' H' { s' with heap := h3 } := J.landed nb fl3.1 (up.trans up3) os ag
    obtain ⟨oe3, vs3, he3, hz3, hd3⟩ := fl3.there
    have notFr : ∀ {h : Heap} {o : Obj} {vs : Array Value}, h.FunFrames B (X.env :: X.outer) → h.get? a = some o → o.data = .fields vs → a ∉ frs (X.env :: X.outer) := fun {h o vs} ff e dd hm => by
      obtain ⟨_, o', e', hnf⟩ := ff.mem hm
      rw [e] at e'; cases e'
      exact hnf _ dd
    have nfr := notFr fl3.2.2.1 he3 hd3
    have nL : a ≠ X.env.locals := fun z => nfr (List.mem_filterMap.mpr ⟨X.env, List.mem_cons_self, by rw [hf, z]⟩)
    have nF : a ∉ X.fs := fun hm => by
      obtain ⟨e, he, q⟩ := List.mem_filterMap.mp hm
      exact nfr (List.mem_filterMap.mpr ⟨e, List.mem_cons_of_mem _ he, q⟩)
    have nSI : sI.heap.get? a = none := by
      cases z : sI.heap.get? a with
      | none => rfl
      | some o =>
        have := nb a o z (by rw [hs]; exact nfr)
        rw [fl3.2.1] at this
        cases this
    have n0 : X.s_0.heap.get? a = none := by
      cases z : X.s_0.heap.get? a with
      | none => rfl
      | some o =>
        by_cases hx : a ∈ X.ex
        · rw [hex] at hx
          cases hx
        · obtain ⟨o', q⟩ := J.base.there a o z hx
          rw [nSI] at q
          cases q
    have npin : ∀ p ∈ X.pn ++ pins, p.1 ≠ a := fun p hp z => by
      have := (J.pin p hp).1
      rw [z, nSI] at this
      cases this
    have S3 := J3.suite he3 hd3 na nL nF
    refine wpAny_handleBy_cons (codeAny_handlers_test ?_) (by intro q; cases q)
    have LT : PySem.W.Looks (model X.prog X.w) h3 (typeOf (.ref a)) cls := fun A Q E s k q => wpAny_typeOf_ref (k _ _ he3) (by rw [hz3.1]; exact q)
    have LM := PySem.W.exm_one (M := model X.prog X.w) (J3.kIn) LT hb1
    have test : ∀ {Q : Value → Shared → Prop} {E : Value → Shared → Prop}, Q c { s' with heap := h3 } → wpAny (model X.prog X.w) (X.A.mark (some (.ref a))) (eval (.Name x np) X.env) Q E { s' with heap := h3 } := fun {Q E} q => by
      obtain ⟨hg, hdbg, hm | ⟨hm, hv, hnn⟩⟩ := hc
      · exact ld_glob (X := X.suite a ((a, oe3) :: (X.pn ++ pins))) S3 hg hm q hdbg
      · exact ld_blt (X := X.suite a ((a, oe3) :: (X.pn ++ pins))) S3 hg hm hv q hnn hdbg
    refine test (LM.here ?_)
    refine codeAny_handlers_suite_as ?_
    refine HandSPX.lands_againZ fl3 fun h4 fl4 up4 => ?_
    have J4 : L2.Inv X pins σ' H' { s' with heap := h4 } := J.landed nb fl4.1 ((up.trans up3).trans up4) os ag
    obtain ⟨oe4, vs4, he4, hz4, hd4⟩ := fl4.there
    have S4 := J4.suite he4 hd4 na nL nF
    refine store_ok (X := X.suite a ((a, oe4) :: (X.pn ++ pins))) (v := .ref a) S4 hN hi hloc rfl (fun s5 S5 => ?_) (.inr hln)
    have asg := pss_one (ps_set (X := X.suite a ((a, oe4) :: (X.pn ++ pins))) (e := .Name n np2) (pos := ap) (pos' := yp) hN hj (.inl hly) (pe_var (X := X.suite a ((a, oe4) :: (X.pn ++ pins))) (pos := np2) hi (.inl hln) hnd hncd) rfl (.inr hly))
    refine wpAny_mono (asg.run [] s5 _ H' { nx := fun σ6 H6 => σ6 = (σ'.set i (some (V.ref a))).set j (some (V.ref a)) ∧ H6 = H', rt := fun _ _ => False } S5 ⟨.ref a, by rw [List.getElem?_set_self (by rw [J.len]; exact hil)], ⟨rfl, rfl⟩⟩) (fun f s6 hsp => ?_) (fun _ _ z => False.elim z)
    cases f with
    | next =>
      obtain ⟨σ6, H6, S6, e6, e7⟩ := hsp
      subst e6 e7
      have pin6 := S6.pin (a, oe4) (by rw [List.append_nil]; exact List.mem_cons_self)
      exact gone_ok (Inv.track (S6.unsuite ok) pin6.1 hz4 hd4 pin6.2.1 n0 nL npin) hN hi hln fun s7 J7 => ⟨_, _, J7, hyes a na J.len⟩
    | brk => obtain ⟨_, _, _, q6⟩ := hsp; exact False.elim q6
    | cont => obtain ⟨_, _, _, q6⟩ := hsp; exact False.elim q6
    | ret u => obtain ⟨_, _, _, _, _, q6⟩ := hsp; exact False.elim q6
  · cases f with
    | next =>
      obtain ⟨σ', H', J', q⟩ := hsp
      exact wpAny_execs_nil ⟨σ', H', J'.ofTry ok, q⟩
    | brk =>
      obtain ⟨σ', H', J', q⟩ := hsp
      exact ⟨σ', H', J'.ofTry ok, q⟩
    | cont =>
      obtain ⟨σ', H', J', q⟩ := hsp
      exact ⟨σ', H', J'.ofTry ok, q⟩
    | ret u =>
      obtain ⟨v, σ', H', J', r, q⟩ := hsp
      exact ⟨v, σ', H', J'.ofTry ok, r, q⟩
end
end VM
set_option Elab.async false
set_option linter.all false
set_option maxRecDepth 100000
/-! VmX: the def that keeps what some work raises; its call with a lambda. -/
namespace VM
open PySem PySem.Spec L2 LamX
/-- what the catcher makes of a lambda's reading -/
def TCau (K : PySem.W.Frag) (CS : Addr) : (XK → Hp → VK → Prop) → Hp → VK → Prop := fun tl H Q =>
  tl (fun cls d H' => PySem.W.exmOne K cls (.ref CS) = some true ∧ ∀ a, H' a = none → Q (.ref a) (upd H' a (ExV cls d a))) H (fun _ H' => Q .non H')
/-- the catcher's text -/
def cauBody (a v n e : Str) (j : Nat) (p1 p2 p3 p4 p5 p6 p7 p8 p9 q1 q2 q3 q4 q5 : Pos) : List Stmt :=
  [.Assign [.Name v p1] (.Constant .none j p2) p3,
   .Try [.Expr (.Call (.Name a p4) [] [] p5) p6] [.ExceptHandler (some (.Name e p7)) (some n) [.Assign [.Name v p8] (.Name n p9) q1] q2] [] [] q3,
   .Return (some (.Name v q4)) q5]
theorem caught_gives {X : Cx} {x a v n e q : Str} {sg : Scope} {g CS : Addr} {cdg : Value} {j : Nat} {p1 p2 p3 p4 p5 p6 p7 p8 p9 q1 q2 q3 q4 q5 : Pos} (hge : sg.names.lookup e = some .globalImplicit) (hme : X.mg e = some (.ref CS)) (hde : (e == ("__debug__" : Str)) = false)
    (hv : sg.names.lookup v = some .local) (hn : sg.names.lookup n = some .local) (nd : [a, v, n].Nodup) (d1 : (v == ("__debug__" : Str)) = false) (d2 : (v == ("__classdict__" : Str)) = false) (d3 : (n == ("__debug__" : Str)) = false) (d4 : (n == ("__classdict__" : Str)) = false) :
    GivesTo X [a, v, n] x sg g cdg (cauBody a v n e j p1 p2 p3 p4 p5 p6 p7 p8 p9 q1 q2 q3 q4 q5) a q (TCau X.K CS) := by
  intro f c' s H Q tl act hc h
  have hgl : Gl (cxOf C8.CX0 X.prog X.w X.K X.mg X.base [a, v, n] x sg g cdg X.A X.stack s H C8.E0).nox e := hge
  refine ⟨_, pss_cons (ps_set (X := (cxOf C8.CX0 X.prog X.w X.K X.mg X.base [a, v, n] x sg g cdg X.A X.stack s H C8.E0).nox) (i := 1) (pos := p3) (pos' := p1) nd rfl (.inl hv) (pe_non (j := j) (pos := p2)) rfl (.inr hv))
    (pss_cons (ps_try_keep (X := (cxOf C8.CX0 X.prog X.w X.K X.mg X.base [a, v, n] x sg g cdg X.A X.stack s H C8.E0).nox) (c := .ref CS) (i := 2) (j := 1)
      (tb := fun W D σ H => ∃ Ech : XK, (∀ cls d σ' H', Ech cls d H' → W cls d σ' H') ∧ σ[0]? = some (some (V.ref f)) ∧ H c' = some (CodeO c' q) ∧ tl Ech H (fun _ H' => D.nx σ H'))
      rfl rfl nd rfl hn rfl hv ⟨hgl, hde, .inl hme⟩ (by show 2 < 3; decide) rfl d3 d4 (fun W pn xe tk _ => ?_))
      (pss_one (ps_ret (pos := q5) (pe_var (X := (cxOf C8.CX0 X.prog X.w X.K X.mg X.base [a, v, n] x sg g cdg X.A X.stack s H C8.E0).nox) (pos := q4) (i := 1) rfl (.inl hv) d1 d2)))), ?_⟩
  · refine ⟨fun pins s' σ H' D I h' => ?_⟩
    obtain ⟨Ech, hW, h1, h2, h3⟩ := h'
    have hp := act W pn xe Ech p4 p5 tk hW
    have hq := pss_one (ps_expr (pos := p6) hp rfl)
    exact hq.run pins s' σ H' D I ⟨h1, h2, h3⟩
  · refine ⟨fun cls d H' => PySem.W.exmOne X.K cls (.ref CS) = some true ∧ ∀ a, H' a = none → Q (.ref a) (upd H' a (ExV cls d a)), fun cls d σ' H' ⟨e1, e2⟩ => ⟨e1, fun a na hl => ⟨.ref a, ?_, e2 a na⟩⟩, rfl, hc, ?_⟩
    · have hl : σ'.length = 3 := hl
      show ((σ'.set 2 _).set 1 _ |>.set 2 none)[1]? = _
      rw [List.getElem?_set_ne (by decide), List.getElem?_set_self (by rw [List.length_set]; omega)]
    · have e9 : (fun (_ : V) H' => ∃ w : V, (((L2.start [a, v, n] [V.ref f]).set 1 (some V.non)))[1]? = some (some w) ∧ Q w H') = fun (_ : V) H' => Q V.non H' := by
        funext z H'
        exact propext ⟨fun ⟨w, q1, q2⟩ => by cases q1; exact q2, fun q => ⟨.non, rfl, q⟩⟩
      show tl _ H (fun (_ : V) H' => ∃ w : V, (((L2.start [a, v, n] [V.ref f]).set 1 (some V.non)))[1]? = some (some w) ∧ Q w H')
      rw [e9]
      exact h
end VM
set_option Elab.async false
set_option linter.all false
set_option maxRecDepth 100000
set_option maxHeartbeats 2000000
/-! VmY: a def called with a lambda (HandS.Lambda's rule, with what else is kept); the catcher's call. -/
namespace VM
open PySem PySem.Spec PyProof.Rows L2 LamX
section
variable {X : Cx} {pins : List (Addr × Obj)} {σ : L2.St} {H : Hp} {s : Shared}
theorem lam_makeD {T : List (Addr × Str)} {c P : Addr} {params : Arguments} {body : Expr} {scope : Scope} {pos : Pos} {E : Value → Shared → Prop} {Q : Value → Shared → Prop} (I : Inv X pins σ H s) (TB : TabB X.base X.mg c P) (hcode : X.env.code = .ref c)
    (hm : (P, X.env.qual ++ "<lambda>") ∈ T) (hu : ∀ p ∈ T, p.1 = P → p.2 = X.env.qual ++ "<lambda>") (hT : Tabs T H) (hdef : defaultsOf params X.env = ([], [])) (hfree : ∀ y ∈ scope.names, y.2 = .free → ∃ c, X.env.cells.lookup y.1 = some c)
    (h : ∀ (f c' : Addr) (pm ctv : Value) (H1 : Hp) (s' : Shared), Inv X pins σ H1 s' → ExtN H H1 → (∀ b, H b ≠ none → H1 b ≠ none) → Tabs T H1 →
      s'.heap.get? f = some (PySem.W.kla_obj "<lambda>" (X.env.qual ++ "<lambda>") params body scope (cloFrom X.env.cells scope.names []) pm c' ctv) → H1 f = none → f ∉ frs X.stack → H1 c' = some (CodeO c' (X.env.qual ++ "<lambda>")) → Q (.ref f) s') :
    wpAny (model X.prog X.w) X.A (eval (.Lambda params body scope pos) X.env) Q E s := by
  obtain ⟨ps, hP, ht, ha⟩ := hT _ hm
  refine PySem.W.kla_eval hdef ?_
  have bP : s.heap.BuiltinsAt X.mg P := TB.bm.keeps I.bk
  have hP' : s.heap.get? P = some { cls := .none, data := .fields ps } := I.hok P _ hP
  have nofr : ∀ f, s.heap.objs.size ≤ f → f ∉ frs X.stack := fun f hf z => by
    rcases List.mem_cons.mp (I.stkSub _ z) with e | e
    · have h1 := I.lt
      rw [← e] at h1
      exact Nat.lt_irrefl _ (Nat.lt_of_lt_of_le h1 hf)
    · exact I.nofs hf e
  cases hc : codeAmong pos ps.toList with
  | none =>
    refine PySem.W.kla_makeFunction (mg := X.mg) (c := c) (P := P) (ps := ps) (closure_ok hfree) I.ok.glob (I.mod.glob.keeps I.bk) hcode (TB.code.keeps I.bk) hP' ht hc TB.gP bP fun c' ctv h' tk hx hge hlt hrec htb => ?_
    obtain ⟨c2, oc, vs, t, e2, hoc, hd, hv⟩ := hrec
    cases e2
    have hsz : s.heap.objs.size ≤ h'.objs.size := Nat.le_trans hge (Nat.le_of_lt hlt)
    have nC : H c' = none := I.hok.fresh hge
    have I1 := inv_table (t' := tk) (more := #[rawInt pos.line, rawInt pos.col, .ref c']) (h' := h'.push (PySem.W.kla_obj "<lambda>" (X.env.qual ++ "<lambda>") params body scope (cloFrom X.env.cells scope.names []) ((X.mg "__name__").getD .none) c' ctv)) I hP
      (fun b o hb e => Heap.get?_push_of_some _ (hx b o hb e)) (Heap.get?_push_of_some _ htb) hge ⟨oc, vs, t, Heap.get?_push_of_some _ hoc, hd, hv⟩
    have hE : ExtN H (upd (upd H P (.tbl (ps ++ #[rawInt pos.line, rawInt pos.col, .ref c']))) c' (CodeO c' (X.env.qual ++ "<lambda>"))) := fun b o e n => by
      rw [upd_ne (ne_of_none e nC), upd_ne (fun z => n ps (Option.some.inj (e.symm.trans (by rw [z]; exact hP))))]
      exact e
    have eL : (ps ++ #[rawInt pos.line, rawInt pos.col, .ref c']).toList = ps.toList ++ [rawInt pos.line, rawInt pos.col, .ref c'] := by simp
    refine h h'.objs.size c' ((X.mg "__name__").getD .none) ctv _ _ I1 hE (fun b hb => ?dom) (fun p hp => ?_) (Heap.get?_push_size _ rfl) ?_ (nofr _ hsz) upd_same
    case dom =>
      by_cases z : b = c'
      · rw [z, upd_same]; simp
      · rw [upd_ne z]
        by_cases z2 : b = P
        · rw [z2, upd_same]; simp
        · rw [upd_ne z2]; exact hb
    · by_cases hb : p.1 = P
      · rw [hu p hp hb, hb]
        refine ⟨_, by rw [upd_ne (ne_of_none hP nC), upd_same], by rw [eL]; exact PySem.TriplesOk_snoc _ _ _ _ ht, fun p' cv hcv => ?_⟩
        rw [eL] at hcv
        rcases among_app _ ht hcv with z | z
        · obtain ⟨c0, e1, e2⟩ := ha p' cv z
          exact ⟨c0, e1, hE _ _ e2 codeO_ne⟩
        · exact ⟨c', z, upd_same⟩
      · obtain ⟨ps', a1, a2, a3⟩ := hT p hp
        refine ⟨ps', by rw [upd_ne (ne_of_none a1 nC), upd_ne hb]; exact a1, a2, fun p' cv hcv => ?_⟩
        obtain ⟨c0, e1, e2⟩ := a3 p' cv hcv
        exact ⟨c0, e1, hE _ _ e2 codeO_ne⟩
    · have n1 : h'.objs.size ≠ c' := Nat.ne_of_gt hlt
      have n2 : h'.objs.size ≠ P := Nat.ne_of_gt (Nat.lt_of_lt_of_le (Heap.lt_size hP') hsz)
      rw [upd_ne n1, upd_ne n2]
      exact I.hok.fresh hsz
  | some cv =>
    obtain ⟨c', e, hco⟩ := ha pos cv hc
    subst e
    refine PySem.W.kla_makeFunctionHit (mg := X.mg) (c := c) (P := P) (ps := ps) (closure_ok hfree) I.ok.glob (I.mod.glob.keeps I.bk) hcode (TB.code.keeps I.bk) hP' ht hc bP fun ctv h' tk hx hsz => ?_
    have I1 : Inv X pins σ H { s with heap := h'.push (PySem.W.kla_obj "<lambda>" (X.env.qual ++ "<lambda>") params body scope (cloFrom X.env.cells scope.names []) ((X.mg "__name__").getD .none) c' ctv), toks := tk } := I.kept fun b o e => Heap.get?_push_of_some _ (hx b o e)
    exact h h'.objs.size c' ((X.mg "__name__").getD .none) ctv H _ I1 (ExtN.refl H) (fun _ h => h) hT (Heap.get?_push_size _ rfl) (I.hok.fresh hsz) (nofr _ hsz) hco
end
def tLamD (T : List (Addr × Str)) (TT : (XK → Hp → VK → Prop) → Hp → VK → Prop) (t : XK → TE) : TE := fun σ H Q => Tabs T H ∧ ∀ H1, ExtN H H1 → (∀ b, H b ≠ none → H1 b ≠ none) → Tabs T H1 → TT (fun E H' Q' => t E σ H' Q') H1 Q
section
variable {X : Cx}
theorem pe_lamcallD {T : List (Addr × Str)} {TT : (XK → Hp → VK → Prop) → Hp → VK → Prop} {x a : Str} {g c P : Addr} {k : Nat} {pg : Arguments} {bg : List Stmt} {sg : Scope} {dV kV doc pm cdv ct oc : Value} {an od : Option Addr} {osl : Array (Option Value)} {Ng : List Str}
    {params : Arguments} {body : Expr} {scope : Scope} {t : XK → TE} {p lpos pos : Pos} (hg : Gl X x) (hm : X.mg x = some (.ref g)) (hk : PySem.W.keepIn X.K (.ref g) = true)
    (lk : X.K.lookup g = some ⟨oc, od, .func (PySem.W.fnOf x x pg bg sg dV kV doc pm an cdv ct), osl⟩) (hcg : PySem.W.codeIn X.K cdv x = true) (hb : L2.Binds X.K (PySem.W.fnOf x x pg bg sg dV kV doc pm an cdv ct) [a] []) (Sg : FnScope Ng [a] sg) (hNg : Ng[0]? = some a) (hva : Vis sg a)
    (hG : GivesTo X Ng x sg g cdv bg a (X.env.qual ++ "<lambda>") TT)
    (TB : TabB X.base X.mg c P) (hcode : X.env.code = .ref c) (hmT : (P, X.env.qual ++ "<lambda>") ∈ T) (hu : ∀ p ∈ T, p.1 = P → p.2 = X.env.qual ++ "<lambda>") (hr : Room (k + 2) X.A) (L : LamS X.env.scope scope) (hdef : defaultsOf params X.env = ([], []))
    (hbind : ∀ (q : Str) (cl : List (Str × Addr)) (pm cv ctv : Value), bindArgs (PySem.W.kla_fn "<lambda>" q params body scope cl pm cv ctv) ⟨[], []⟩ = pure [])
    (hbody : ∀ (A : Around) (outer : List Env) (s : Shared) (H : Hp) (E : XK) (f c' : Addr), Room k (A.deeper (lamEnv X scope s.heap.objs.size f c')) → PE (lamCx X A outer s H E scope f c') body (t E))
    (hdb : (x == ("__debug__" : Str)) = false := by decide) (hd : (a == ("__debug__" : Str)) = false := by decide) (hcd : (a == ("__classdict__" : Str)) = false := by decide) :
    PE X (.Call (.Name x p) [.Lambda params body scope lpos] [] pos) (tLamD T TT t) := by
  refine ⟨fun pins s σ H Q I h => ?_⟩
  obtain ⟨hT, h⟩ := h
  refine wpAny_Call_Name_kw (ld_glob I hg hm ?_ hdb)
  refine PySem.W.callWith_K (h₀ := X.base) I.ok.mod.kin hk ?_ (by rfl) (by rfl)
  show wpAny _ _ (spliced ((false, eval (.Lambda params body scope lpos) X.env) :: backTo pos (starEach [] X.env))) _ _ s
  refine Calls.spliced_cons (lam_makeD I TB hcode hmT hu hT hdef (L.has I.ok) fun f c' pm' ctv H1 s' I1 eN dN T1 hf hfn hfr hco => ?_)
  refine Calls.spliced_nil ⟨I1.kIn, ?_⟩
  have rc : codeAny (model X.prog X.w) X.A (.call (.ref g) ⟨[.ref f], []⟩) (CR C8.CX0 X.stack X.prog X.w H1 s' Q C8.E0) s' := by
    refine run_ofS (N := Ng) (ps := [a]) (us := [.ref f]) (vs := [.ref f]) lk hcg Sg hr I1.env0 (hb s' [.ref f] I1.kIn rfl) (.cons rfl .nil) rfl fun hr' => ?_
    obtain ⟨t', ht', hq'⟩ := hG f c' s' H1 Q (fun E H' Q' => t E σ H' Q') (fun W pn xe E p1 p2 tk hW => pe_act (i := 0) I1 L hf hfn hfr (hbind _ _ _ _ _) tk hW hr' (fun A outer s H hr2 => hbody A outer s H E f c' hr2) hNg hva hd hcd) hco (h H1 eN dN T1)
    exact ⟨t', ht'.nox, hq'⟩
  refine wpAny_call (codeAny_mono rc fun r s2 hq => ?_)
  cases r with
  | error e => exact (show False from hq).elim
  | ok fl =>
    cases fl with
    | ret u => exact I1.after hq
    | next => exact False.elim hq
    | brk => exact False.elim hq
    | cont => exact False.elim hq
end
section
variable {Z : Zed} {Wx : Value → Option Addr → Hp → Prop} {G0 E0 : Hp} {X : Cx}
theorem PE.ex {α : Type} {e : Expr} {t : α → TE} (h : ∀ a, PE X e (t a)) : PE X e (fun σ H Q => ∃ a, t a σ H Q) := ⟨fun pins s σ H Q I ⟨a, q⟩ => (h a).run pins s σ H Q I q⟩
theorem Stt.tabs {G H H1 : Hp} {σ : L2.St} {ρ : En} {w : Dw} (S : Stt Z G0 E0 G H σ ρ w) (e : ExtN H H1) (d : ∀ b, H b ≠ none → H1 b ≠ none) (t : Tabs Z.T H1) : Stt Z G0 E0 G H1 σ ρ w ∧ Nx G H G H1 := by
  have x : Nx G H G H1 := ⟨fun _ _ h => h, fun b o q n _ => e b o q n, d, fun _ h => .inl h⟩
  refine ⟨S.next x ⟨fun b o q n => e b o (S.gl.gok b o q n) (S.gl.gty b o q), S.gl.gty, fun b o q => d b (S.gl.gin b o q), S.gl.mks, ?_, t⟩, x⟩
  have dw := S.gl.dw
  unfold DwOk at dw ⊢
  split at dw
  · rename_i on
    rw [if_pos on]
    obtain ⟨a, l, kvs, xs, vr, vc, vt, h1, h2, h3, h4, h5, h6, h7, h8, h9, h10, h11, h12⟩ := dw
    exact ⟨a, l, kvs, xs, vr, vc, vt, h1, h2, h3, h4, e _ _ h5 (fun _ z => by cases z), h6, h7, h8, h9, h10, e _ _ h11 (fun _ z => by cases z), h12⟩
  · rename_i on
    rw [if_neg on]
    exact dw
theorem Stt.lam {G H : Hp} {σ : L2.St} {ρ : En} {w : Dw} (S : Stt Z G0 E0 G H σ ρ w) : Stt Z G H G H σ (ρ.map Sl.sh) w :=
  ⟨Nx.refl G H, S.gl, by rw [List.length_map]; exact S.len, fun i d e => S.val i d (sh_v e), fun i ds e => absurd e sh_own, fun i j es es' a n e => absurd e sh_own⟩
/-- the reading of the catcher's call -/
theorem caught_read {CS : Addr} {takes : Nat → Bool} {fE : En → Dw → Res RV} (hK : X.K = Z.K) (ht : ∀ c, takes c = true → PySem.W.exmOne Z.K (.ref (Z.ca c)) (.ref CS) = some true) {σ : L2.St} {H : Hp} {Q : VK}
    (h : SE Z Wx G0 E0 (fun ρ w => match fE (ρ.map Sl.sh) w with
    | .ok _ w => .ok (.v .non) w
    | .exc er w => if takes er.c then .ok (.v (.err er.c er.fs)) w else .bad
    | .bad => .bad) σ H Q) : tLamD Z.T (TCau X.K CS) (fun E σ H Q => ∃ G1 E1, SE Z E G1 E1 fE σ H Q) σ H Q := by
  obtain ⟨G, ρ, w, S, k⟩ := h
  refine ⟨S.gl.tab, fun H1 eN dN T1 => ?_⟩
  obtain ⟨S1, x1⟩ := S.tabs eN dN T1
  refine ⟨G, H1, G, ρ.map Sl.sh, w, S1.lam, ?_⟩
  dsimp only at k
  cases q : fE (ρ.map Sl.sh) w with
  | bad => rw [q] at k; exact k.elim
  | ok r w' =>
    rw [q] at k
    intro v G' H' x S' _
    exact k .non G' H' (x1.trans x) (S1.next x S'.gl) .non
  | exc er w' =>
    rw [q] at k
    have k : Out Z Wx G0 E0 (KE Z G0 E0 G H σ ρ Q) (if takes er.c = true then .ok (.v (.err er.c er.fs)) w' else .bad) := k
    split at k
    · rename_i tk
      intro cls d G' H' x g er'
      obtain ⟨vs, ec, hf, hr⟩ := er'
      refine ⟨by rw [ec, hK]; exact ht _ tk, fun a na => ?_⟩
      have ga := g.fresh na
      have sG := sub_upd (o := ExV cls d a) ga
      have ha : H a = none := by
        cases z : H a with
        | none => rfl
        | some o => exact absurd na ((x1.trans x).dom a (by rw [z]; simp))
      have x2 : Nx G H (upd G' a (ExV cls d a)) (upd H' a (ExV cls d a)) := ((x1.trans x).trans (Nx.alloc na)).freeze ga ha
      have g2 : Gg Z (upd G' a (ExV cls d a)) (upd H' a (ExV cls d a)) w' := (g.alloc na).freeze upd_same ga (fun _ z => by unfold ExV at z; cases z) rfl
      refine k (.ref a) _ _ x2 (S.next x2 g2) ?_
      show Rp Z _ (.ref a) (.err er.c er.fs)
      refine .err ?_ (FldAt.sub sG hf) (RpL.sub sG hr)
      rw [← ec]
      exact upd_same
    · exact k.elim
end
end VM
set_option Elab.async false
set_option linter.all false
set_option maxRecDepth 100000
/-! VmZa: raise; isinstance; a caught error's field. -/
namespace VM
open PySem PySem.Spec L2
/-- the class c: its name, how it is made -/
structure ClI (Z : Zed) (c : Nat) (x : Str) : Prop where
  mg : Z.mg x = some (.ref (Z.ca c))
  kp : PySem.W.keepIn Z.K (.ref (Z.ca c)) = true
  how : (Z.fldN c = [] ∧ PySem.W.subIn Z.K (.ref (Z.ca c)) (.type "BaseException") = some true ∧ PySem.W.typeIn Z.K (.ref (Z.ca c)) = some (.type "type") ∧ ∃ (bmB : List Value) (B newId initId : String), ExcBaseFacts B newId initId bmB ∧ PySem.W.excIn Z.K (Z.ca c) bmB newId = true) ∨
    ∃ fI f x', Z.fldN c = [f] ∧ InitC Z.P Z.K (Z.ca c) fI f x'
section
variable {Z : Zed} {Wx : Value → Option Addr → Hp → Prop} {G0 E0 : Hp} {X : Cx} {k : Nat} {gu : Bool} {sc : Scope} {N : List Str} {f : En → Dw → Res RV} {x : Str} {p pos pos' : Pos} {a : Expr}
theorem ss_rai (c : FC Z (k + 1) gu Wx X sc N) {n : Nat} (i : ClI Z n x) (hg : Gl X x) (ha : PE X a (SE Z Wx G0 E0 f)) (hs : ∀ y q, a ≠ .Starred y q) (hdb : (x == ("__debug__" : Str)) = false) :
    PS X (.Raise (some (.Call (.Name x p) [a] [] pos)) none pos') (SS Z Wx G0 E0 fun ρ w => ((f ρ w).bind fun u w => (Res.ok ([] : List RV) w).bind fun us w => .ok (u :: us) w).bind fun rs w => match rs.mapM RV.toD with
    | none => .bad
    | some ds => .exc ⟨n, if (Z.fldN n).isEmpty then [] else ds⟩ w) := by
  have hm : X.mg x = some (.ref (Z.ca n)) := by rw [c.hm]; exact i.mg
  rcases i.how with ⟨h0, h1, h2, bmB, B, newId, initId, FB, q⟩ | ⟨fI, fl, x', h0, IC⟩
  · refine PS.imp (ps_raise c.calm c.tk (SkE.pmk_own1 FB (by rw [c.hK]; exact q) hm (by rw [c.hK]; exact i.kp) (raises_own (by rw [c.hK]; exact h1) (by rw [c.hK]; exact h2)) hg ha (starEach_cons hs) hdb)) fun T σ H ⟨G, ρ, w, S, kk⟩ => ?_
    refine ⟨G, ρ, w, S, (out_bind.mp (out_bind.mp kk)).mono fun u w1 k1 v G1 H1 x1 S1 r1 => ?_⟩
    have k1 : Out Z Wx G0 E0 (KS Z G0 E0 G T) (match ([u] : List RV).mapM RV.toD with
      | none => .bad
      | some ds => .exc ⟨n, if (Z.fldN n).isEmpty then [] else ds⟩ w1) := k1
    cases qd : ([u] : List RV).mapM RV.toD with
    | none => rw [qd] at k1; exact k1.elim
    | some ds =>
      rw [qd] at k1
      refine k1 _ _ _ _ S1.nx S1.gl ⟨[], rfl, .inl ⟨h0, rfl, rfl⟩, ?_⟩
      rw [h0]
      exact .nil
  · have IC' : InitC X.prog X.K (Z.ca n) fI fl x' := by rw [c.hP, c.hK]; exact IC
    refine PS.imp (ps_raise c.calm c.tk (pmk_init IC' (c.room.mono (by omega)) hg hm ha hdb (starEach_cons hs))) fun T σ H ⟨G, ρ, w, S, kk⟩ => ?_
    refine ⟨G, ρ, w, S, (out_bind.mp (out_bind.mp kk)).mono fun u w1 k1 v G1 H1 x1 S1 r1 d hd => ?_⟩
    have k1 : Out Z Wx G0 E0 (KS Z G0 E0 G T) (match ([u] : List RV).mapM RV.toD with
      | none => .bad
      | some ds => .exc ⟨n, if (Z.fldN n).isEmpty then [] else ds⟩ w1) := k1
    cases qd : ([u] : List RV).mapM RV.toD with
    | none => rw [qd] at k1; exact k1.elim
    | some ds =>
      rw [qd] at k1
      obtain ⟨b, r, e1, e2, rfl⟩ := mapM_cons qd
      cases e2
      obtain ⟨G2, s2, x2, S2, r2, _⟩ := RR.data S x1 S1 r1 e1
      have gd := S2.fresh hd
      have s3 := sub_upd (o := HO.xd [(fl, v)]) gd
      have x3 : Nx G1 H1 (upd G1 d (.xd [(fl, v)])) (upd H1 d (.xd [(fl, v)])) := (Nx.alloc hd).freeze (S1.fresh hd) hd
      have hn3 : Nx G2 H1 (upd G2 d (.xd [(fl, v)])) (upd H1 d (.xd [(fl, v)])) := (Nx.alloc hd).freeze gd hd
      refine k1 _ _ _ _ (S2.nx.trans hn3) ((S2.gl.alloc hd).freeze upd_same gd (fun _ z => by cases z) rfl) ⟨[v], rfl, .inr ⟨d, fl, v, h0, rfl, rfl, upd_same⟩, ?_⟩
      rw [h0]
      exact .cons (Rp.sub s3 r2) .nil
/-! ### the object of a caught error -/
def ErF (H : Hp) (a D : Addr) (d : Option Addr) : Prop := H a = some (ExV (.ref D) d a) ∧ (d = none ∨ ∃ dd fs, d = some dd ∧ H dd = some (.xd fs))
theorem inst_err {pins : List (Addr × Obj)} {σ : L2.St} {H : Hp} {s : Shared} {a D : Addr} {d : Option Addr} (I : L2.Inv X pins σ H s) (e : ErF H a D d) : ∃ ox od, PySem.W.InstAt s.heap a ox D od ∧ ox.dict = d ∧ (d = none → od = none) := by
  obtain ⟨h1, h2⟩ := e
  obtain ⟨⟨oe, vs, g1, g2, g3, g4⟩, _, _⟩ := I.hok a _ h1
  rcases h2 with rfl | ⟨dd, fs, rfl, h3⟩
  · exact ⟨oe, none, ⟨g1, g2, by unfold PySem.W.notCls; rw [g4] <;> rfl, by rw [g3]; trivial⟩, g3, fun _ => rfl⟩
  · obtain ⟨mA, hns, _⟩ := I.hok dd _ h3
    obtain ⟨od, ho, _⟩ := lookIn_ns hns
    exact ⟨oe, some od, ⟨g1, g2, by unfold PySem.W.notCls; rw [g4] <;> rfl, by rw [g3]; exact ho⟩, g3, fun z => by cases z⟩
theorem errF_of {H G : Hp} {w : Dw} {a : Addr} {c : Nat} {d : Option Addr} {vs : List V} (g : Gg Z G H w) (h : G a = some (ExV (.ref (Z.ca c)) d a)) (hf : FldAt Z G c d vs) : ErF H a (Z.ca c) d := by
  refine ⟨g.gok _ _ h rfl, ?_⟩
  rcases hf with ⟨_, _, e⟩ | ⟨dd, nm, v, _, e, _, q⟩
  · exact .inl e
  · exact .inr ⟨dd, _, e, g.gok _ _ q rfl⟩
/-- isinstance, of an error too -/
def rIsX (K : PySem.W.Frag) : List V → Hp → VK → Prop := fun xs H Q => rIsi K xs H Q ∨ ∃ (a D : Addr) (d : Option Addr) (c : V) (u : Value) (b : Bool), xs = [.ref a, c] ∧ ErF H a D d ∧ ExcC K D ∧ ClsV c u ∧ PySem.W.kitOne K (.ref D) u = some b ∧ Q (.bl b) H
theorem call_isX : CallR X (.builtin "isinstance") (rIsX X.K) := by
  refine call_isi.or ?_
  intro pins s σ H xs us Q I r h
  obtain ⟨a, D, d, c, u, b, rfl, ef, C, k, e, q⟩ := h
  obtain ⟨u1, u2, rfl, r1, r2⟩ := vals2 r
  have e2 := k.eq r2
  subst e2
  cases r1
  obtain ⟨ox, od, J, _⟩ := inst_err I ef
  exact PySem.W.kia_one (PySem.W.kitx_exc (by obtain ⟨cd, hc, _⟩ := PySem.W.any_some C.hd; rw [hc]; rfl) C.hg C.hk C.hs C.ha C.hn C.ht C.hm) I.kIn J e (fun z => nomatch z) fun tk => ⟨.bl b, H, I.kept (t' := tk) fun _ _ z => z, rfl, q⟩
/-- .. field of such -/
def tFd (K : PySem.W.Frag) (n : Str) (te : TE) : TE := fun σ H Q => te σ H fun x H1 => ∃ (a D dd : Addr) (fs : List (Str × V)) (v : V), x = .ref a ∧ H1 a = some (ExV (.ref D) (some dd) a) ∧ XfC K D ∧ PySem.W.findIn K (.ref D) n = some none ∧ H1 dd = some (.xd fs) ∧ fs.lookup n = some v ∧ Q v H1
theorem pe_fd {e : Expr} {te : TE} {n : Str} (he : PE X e te) (hb : attributeBase e n X.env (eval e X.env) = eval e X.env) : PE X (.Attribute e n pos) (tFd X.K n te) := by
  refine ⟨fun pins s σ H Q I h => ?_⟩
  refine attr_of hb (thn (he.run pins s σ H _ I h) fun u s1 hh => ?_)
  obtain ⟨x, H1, I1, rx, a, D, dd, fs, v, ex, e1, T, hno, e2, l, q⟩ := hh
  subst ex
  obtain rfl : u = Value.ref a := rx
  obtain ⟨⟨oe, vs, g1, g2, g3, g4⟩, _, _⟩ := I1.hok a _ e1
  obtain ⟨mA, hns, hr⟩ := I1.hok dd _ e2
  obtain ⟨od, ho, hl⟩ := lookIn_ns hns
  obtain ⟨u, hu, ru⟩ := RelO.some_of (v := v) (o := mA n) (by rw [← l]; exact hr n)
  have J : PySem.W.InstAt s1.heap a oe D (some od) := ⟨g1, g2, by unfold PySem.W.notCls; rw [g4] <;> rfl, by rw [g3]; exact ho⟩
  exact HandSPX.exc_get I1.kIn J T.ga T.gg T.exC (PySem.W.findObj_own T.hdC hno rfl (by rw [hl, hu])) (handed_of ru) ⟨v, H1, I1.tok _, ru, q⟩
theorem pe_fld {n : Str} (hK : X.K = Z.K) (hf : ∀ c, (Z.fldN c).contains n = true → XfC Z.K (Z.ca c) ∧ PySem.W.findIn Z.K (.ref (Z.ca c)) n = some none) (ha : PE X a (SE Z Wx G0 E0 f)) (hb : attributeBase a n X.env (eval a X.env) = eval a X.env) :
    PE X (.Attribute a n pos) (SE Z Wx G0 E0 fun ρ w => (f ρ w).bind fun u w => match u with
    | .v (.err c fs) => .opt (((Z.fldN c).zip fs).lookup n |>.map .v) w
    | _ => .bad) :=
  PE.imp (pe_fd ha hb) fun σ H Q ⟨G, ρ, w, S, kk⟩ => ⟨G, ρ, w, S, (out_bind.mp kk).mono fun u w1 h1 v1 G1 H1 x1 S1 r1 => by
    cases u with
    | v d =>
      cases d with
      | err c fs =>
        obtain ⟨r, e, k1⟩ := out_opt.mp h1
        cases r1 with
        | @err a' _ dd vs _ g1 hfd hr =>
          rcases hfd with ⟨h0, _, _⟩ | ⟨d', nm, v, h0, rfl, rfl, q⟩
          · rw [h0] at e
            cases e
          · rw [h0] at e
            cases hr with
            | @cons _ _ df ds rv rt =>
              cases rt
              have e' : (List.lookup n [(nm, df)]).map RV.v = some r := e
              rw [List.lookup_cons] at e'
              cases hq : (n == nm) with
              | false => rw [hq] at e'; cases e'
              | true =>
                rw [hq] at e'
                cases e'
                have en : n = nm := eq_of_beq hq
                subst en
                obtain ⟨T, hno⟩ := hf c (by rw [h0]; simp)
                exact ⟨a', Z.ca c, d', _, v, rfl, S1.gl.gok _ _ g1 rfl, by rw [hK]; exact T, by rw [hK]; exact hno, S1.gl.gok _ _ q rfl, by rw [List.lookup_cons, hq], (KE.trans x1 k1).here S1 rv⟩
      | _ => exact h1.elim
    | _ => exact h1.elim⟩
end
end VM
set_option Elab.async false
set_option linter.all false
set_option maxRecDepth 100000
/-! VmZb: isinstance. -/
namespace VM
open PySem PySem.Spec L2
/-- what a type says of a built-in type's instance -/
def tyB (t : Ty) : String → Option Bool
  | "NoneType" => some false
  | "bool" => some (t = .bool || t = .int)
  | "int" => some (t = .int)
  | "str" => some (t = .str)
  | "tuple" => some (t = .tup)
  | "list" => some (t = .lst)
  | "dict" => some false
  | _ => none
structure TyI (Z : Zed) (sub : Nat → Nat → Option Bool) (t : Ty) (cv : V) (u : Value) : Prop where
  cls : ClsV cv u
  b : ∀ (T : String) (r : Bool), tyB t T = some r → PySem.W.kitOne Z.K (.type T) u = some r
  e : ∀ (c c' : Nat) (r : Bool), t = .cls c' → sub c c' = some r → PySem.W.kitOne Z.K (.ref (Z.ca c)) u = some r ∧ ExcC Z.K (Z.ca c)
section
variable {Z : Zed} {Wx : Value → Option Addr → Hp → Prop} {G0 E0 : Hp} {X : Cx}
theorem tyX_tup {H : Hp} {a : Addr} {xs : List V} (h : SqT Z.K H a xs) : TyX Z.K H (.ref a) (.type "tuple") := by
  rcases h with (h | ⟨o, h⟩) | ⟨o, h⟩
  · exact .base (.tup h)
  · exact .fTuple h
  · obtain ⟨its, _, h1, h2, _⟩ := h
    exact .kTuple h1 h2
theorem tyX_lst {H : Hp} {a : Addr} {xs : List V} (h : SqL Z.K H a xs) : TyX Z.K H (.ref a) (.type "list") := by
  rcases h with (h | ⟨o, h⟩) | ⟨o, h⟩
  · exact .base (.lst h)
  · exact .base (.frz h)
  · obtain ⟨its, _, h1, h2, _⟩ := h
    exact .kList h1 h2
theorem isa_run {sub : Nat → Nat → Option Bool} {t : Ty} {cv : V} {u : Value} (ti : TyI Z sub t cv u) {G0 E0 G H Ha : Hp} {σ : L2.St} {ρ : En} {w : Dw} {r : RV} {x : V} {b : Bool} {Q : VK} (S : Stt Z G0 E0 G H σ ρ w) (rr : RR Z Ha G H σ ρ x r) (e : isaT sub t r = some b) (q : Q (.bl b) H) : rIsX Z.K [x, cv] H Q := by
  have seq : ∀ {k ds}, r.seq = some (k, ds) → isaT sub t r = some (if k then decide (t = .tup) else decide (t = .lst)) → rIsX Z.K [x, cv] H Q := fun {k ds} es e2 => by
    rw [e] at e2
    cases e2
    cases k with
    | true =>
      obtain ⟨a, xs, rfl, h1, _⟩ := rr.seqT S.gl es
      exact .inl ⟨_, _, _, u, _, rfl, ti.cls, tyX_tup h1, ti.b "tuple" _ rfl, q⟩
    | false =>
      obtain ⟨a, xs, rfl, h1, _⟩ := rr.seqL S.gl es
      exact .inl ⟨_, _, _, u, _, rfl, ti.cls, tyX_lst (SqL.of h1), ti.b "list" _ rfl, q⟩
  cases r with
  | v d =>
    cases d with
    | non => cases e; cases rr; exact .inl ⟨_, _, _, u, _, rfl, ti.cls, .base .non, ti.b "NoneType" _ rfl, q⟩
    | bl y => cases e; cases rr; exact .inl ⟨_, _, _, u, _, rfl, ti.cls, .base (.bl _), ti.b "bool" _ rfl, q⟩
    | int y => cases e; cases rr; exact .inl ⟨_, _, _, u, _, rfl, ti.cls, .base (.int _), ti.b "int" _ rfl, q⟩
    | str y => cases e; cases rr; exact .inl ⟨_, _, _, u, _, rfl, ti.cls, .base (.str _), ti.b "str" _ rfl, q⟩
    | emp =>
      cases e
      cases rr with
      | emp g1 => exact .inl ⟨_, _, _, u, _, rfl, ti.cls, .base (.dK (S.gl.gok _ _ g1 rfl)), ti.b "dict" _ rfl, q⟩
    | tup ds => exact seq rfl rfl
    | lst ds => exact seq rfl rfl
    | err c fs =>
      cases t with
      | cls c' =>
        have e : sub c c' = some b := e
        obtain ⟨h1, h2⟩ := ti.e c c' b rfl e
        cases rr with
        | err g1 hfd hr => exact .inr ⟨_, _, _, cv, u, b, rfl, errF_of S.gl g1 hfd, h2, ti.cls, h1, q⟩
      | _ => cases e
    | _ => cases e
  | n ds => exact seq rfl rfl
  | m i ds => exact seq rfl rfl
variable {p p2 pos : Pos} {a : Expr} {tn : Str} {f : En → Dw → Res RV}
theorem pe_isi {sub : Nat → Nat → Option Bool} {t : Ty} {cv : V} {u : Value} (ti : TyI Z sub t cv u) (hK : X.K = Z.K) (hg : Gl X "isinstance") (hm : X.mg "isinstance" = none) (ha : PE X a (SE Z Wx G0 E0 f)) (hn : PE X (.Name tn p2) (tC cv)) (hs : ∀ y q, a ≠ .Starred y q) :
    PE X (.Call (.Name "isinstance" p) [a, .Name tn p2] [] pos) (SE Z Wx G0 E0 fun ρ w => (f ρ w).bind fun u w => .opt ((isaT sub t u).map fun b => .v (.bl b)) w) :=
  PE.imp (pe_callB call_isX hg hm PyProof.Rows.boot_isinstance (pa_cons ha (pa_cons hn pa_nil) (starEach_cons hs)) (by decide) (by decide) (starEach_cons hs) rfl) fun σ H Q ⟨G, ρ, w, S, k⟩ => ⟨G, ρ, w, S, (out_bind.mp k).mono fun r w1 h1 v1 G1 H1 x1 S1 r1 => by
    obtain ⟨c, e, k1⟩ := out_opt.mp h1
    cases q : isaT sub t r with
    | none => rw [q] at e; cases e
    | some b =>
      rw [q] at e
      cases e
      show rIsX X.K _ _ _
      rw [hK]
      exact isa_run ti S1 r1 q ((KE.trans x1 k1).here S1 (.bl _))⟩
/-! ### built-in types -/
def tyNm : Ty → String
  | .int => "int"
  | .bool => "bool"
  | .str => "str"
  | .tup => "tuple"
  | .lst => "list"
  | .cls _ => ""
theorem tyB_some {t : Ty} {T : String} {r : Bool} (h : tyB t T = some r) : T ∈ ["NoneType", "bool", "int", "str", "tuple", "list", "dict"] := by
  unfold tyB at h
  split at h <;> first | (exfalso; cases h; done) | simp
theorem tyI_blt {sub : Nat → Nat → Option Bool} {t : Ty} (h : ∀ c, t ≠ .cls c) : TyI Z sub t (.ty (tyNm t)) (.type (tyNm t)) := by
  refine ⟨.ty _, fun T r e => kit_ty ?_, fun c c' r e => absurd e (h _)⟩
  have hT := tyB_some e
  have key : ∀ t' ∈ [Ty.int, .bool, .str, .tup, .lst], ∀ T' ∈ ["NoneType", "bool", "int", "str", "tuple", "list", "dict"], kitB T' (tyNm t') = tyB t' T' := by decide +kernel
  rw [← e]
  refine key t ?_ T hT
  cases t <;> first | (simp; done) | exact absurd rfl (h _)
end
end VM
set_option Elab.async false
set_option linter.all false
set_option maxRecDepth 100000
/-! VmZc: chains of two comparisons; ranges. -/
namespace VM
open PySem PySem.Spec L2
section
variable {Z : Zed} {Wx : Value → Option Addr → Hp → Prop} {G0 E0 : Hp} {X : Cx} {a b c tg : Expr} {es : List Expr} {pos p : Pos} {f g h : En → Dw → Res RV} {fs : En → Dw → Res (List RV)}
/-! ### a o b p c -/
theorem chain_read {o q : COp} {σ : L2.St} {H : Hp} {Q : VK} (k : SE Z Wx G0 E0 (fun ρ w => (f ρ w).bind fun u w => (g ρ w).bind fun v w => match opC o u v with
    | none => .bad
    | some false => .ok (.v (.bl false)) w
    | some true => (h ρ w).bind fun z w => .opt ((opC q v z).map fun b => .v (.bl b)) w) σ H Q) : tChain (rC Z.K o) (rC Z.K q) (SE Z Wx G0 E0 f) (SE Z Wx G0 E0 g) (SE Z Wx G0 E0 h) σ H Q := by
  obtain ⟨G, ρ, w, S, k⟩ := k
  refine ⟨G, ρ, w, S, (out_bind.mp k).mono fun u w1 k1 x G1 H1 x1 S1 r1 => ⟨G1, ρ, w1, S1, (out_bind.mp k1).mono fun v w2 k2 y G2 H2 x2 S2 r2 => ?_⟩⟩
  cases e : opC o u v with
  | none => rw [e] at k2; exact k2.elim
  | some t =>
    rw [e] at k2
    have e' : opCV o u v = some (.v (.bl t)) := by
      show (opC o u v).map _ = _
      rw [e]
      rfl
    refine ops_C o S2 (S1.rrMono x2 r1) r2 e' fun z G3 H3 x3 S3 r3 => ?_
    cases r3
    refine ⟨t, rfl, ?_⟩
    cases t with
    | false => exact iteF ((KE.trans ((x1.trans x2).trans x3) k2) (.bl false) G3 H3 (Nx.refl _ _) S3 (.bl _))
    | true =>
      refine iteT ⟨G3, ρ, w2, S3, (out_bind.mp k2).mono fun z w3 k3 y' G4 H4 x4 S4 r4 => ?_⟩
      obtain ⟨d, e2, k4⟩ := out_opt.mp k3
      cases e3 : opC q v z with
      | none => rw [e3] at e2; cases e2
      | some t2 =>
        rw [e3] at e2
        cases e2
        have e4 : opCV q v z = some (.v (.bl t2)) := by
          show (opC q v z).map _ = _
          rw [e3]
          rfl
        exact ops_C q S4 (S3.rrMono x4 (S2.rrMono x3 r2)) r4 e4 (KE.trans (((x1.trans x2).trans x3).trans x4) k4)
theorem pe_ch2 {o q : COp} (hK : X.K = Z.K) (hu : X.A.units + 65 < cLine) (ha : PE X a (SE Z Wx G0 E0 f)) (hb : PE X b (SE Z Wx G0 E0 g)) (hc : PE X c (SE Z Wx G0 E0 h)) (hm : lastMarks [copA o, copA q] [b, c] = false) :
    PE X (.Compare a [copA o, copA q] [b, c] pos) (SE Z Wx G0 E0 fun ρ w => (f ρ w).bind fun u w => (g ρ w).bind fun v w => match opC o u v with
    | none => .bad
    | some false => .ok (.v (.bl false)) w
    | some true => (h ρ w).bind fun z w => .opt ((opC q v z).map fun b => .v (.bl b)) w) :=
  PE.imp (pe_chain (op_C hu o) (op_C hu q) ha hb hc hm) fun σ H Q k => by
    have := chain_read k
    rw [hK]
    exact this
theorem ch2_bl {o q : COp} {ρ : En} {w : Dw} {r : RV} {w' : Dw} (e : ((f ρ w).bind fun u w => (g ρ w).bind fun v w => match opC o u v with
    | none => .bad
    | some false => .ok (.v (.bl false)) w
    | some true => (h ρ w).bind fun z w => .opt ((opC q v z).map fun b => .v (.bl b)) w) = .ok r w') : ∃ b, r = .v (.bl b) := by
  cases h1 : f ρ w with
  | ok u w1 =>
    rw [h1, Res.bind_ok] at e
    cases h2 : g ρ w1 with
    | ok v w2 =>
      rw [h2, Res.bind_ok] at e
      cases h3 : opC o u v with
      | none => rw [h3] at e; cases e
      | some b =>
        rw [h3] at e
        cases b with
        | false => cases e; exact ⟨_, rfl⟩
        | true =>
          have e : ((h ρ w2).bind fun z w => .opt ((opC q v z).map fun b => RV.v (.bl b)) w) = .ok r w' := e
          cases h4 : h ρ w2 with
          | ok z w3 =>
            rw [h4, Res.bind_ok] at e
            cases h5 : opC q v z with
            | none => rw [h5] at e; cases e
            | some b => rw [h5] at e; cases e; exact ⟨_, rfl⟩
          | exc er w2 => rw [h4] at e; cases e
          | bad => rw [h4] at e; cases e
    | exc er w2 => rw [h2] at e; cases e
    | bad => rw [h2] at e; cases e
  | exc er w1 => rw [h1] at e; cases e
  | bad => rw [h1] at e; cases e
theorem pt_ch2 {o q : COp} (hK : X.K = Z.K) (hu : X.A.units + 65 < cLine) (ha : PE X a (SE Z Wx G0 E0 f)) (hb : PE X b (SE Z Wx G0 E0 g)) (hc : PE X c (SE Z Wx G0 E0 h)) (hm : lastMarks [copA o, copA q] [b, c] = false) :
    PT X (.Compare a [copA o, copA q] [b, c] pos) (ST Z Wx G0 E0 fun ρ w => (f ρ w).bind fun u w => (g ρ w).bind fun v w => match opC o u v with
    | none => .bad
    | some false => .ok (.v (.bl false)) w
    | some true => (h ρ w).bind fun z w => .opt ((opC q v z).map fun b => .v (.bl b)) w) :=
  PT.imp (pt_chain (op_C hu o) (op_C hu q) ha hb hc hm) fun σ H Q k => by
    have := chain_read (se_truth (fun ρ w r w' e => ch2_bl e) k)
    rw [hK]
    exact this
/-! ### range(..) walked -/
theorem TAmono {σ : L2.St} {H : Hp} {Q Q' : List V → Hp → Prop} (k : SA Z Wx G0 E0 fs σ H Q) (i : ∀ vs H1, Q vs H1 → Q' vs H1) : SA Z Wx G0 E0 fs σ H Q' := by
  obtain ⟨G, ρ, w, S, k⟩ := k
  exact ⟨G, ρ, w, S, k.mono fun rs w1 h vs G1 H1 x1 S1 r1 => i _ _ (h vs G1 H1 x1 S1 r1)⟩
theorem big_of {i : Int} (h : big62 i = true) : -(2 ^ 62) ≤ i ∧ i < 2 ^ 62 := by
  unfold big62 at h
  rw [Bool.and_eq_true] at h
  exact ⟨of_decide_eq_true h.1, of_decide_eq_true h.2⟩
theorem rngI_1 {as : List RV} {l : List D} (h : rngI as = some l) (hl : as.length = 1) : ∃ j : Int, as = [.v (.int j)] ∧ big62 j = true ∧ l = rngL 0 1 j.toNat := by
  unfold rngI at h
  split at h
  · split at h <;> cases h
    exact ⟨_, rfl, by assumption, rfl⟩
  · simp at hl
  · simp at hl
  · cases h
theorem rngI_2 {as : List RV} {l : List D} (h : rngI as = some l) (hl : as.length = 2) : ∃ i j : Int, as = [.v (.int i), .v (.int j)] ∧ big62 i = true ∧ big62 j = true ∧ l = rngL i 1 (j - i).toNat := by
  unfold rngI at h
  split at h
  · simp at hl
  · split at h <;> cases h
    rename_i hh
    rw [Bool.and_eq_true] at hh
    exact ⟨_, _, rfl, hh.1, hh.2, rfl⟩
  · simp at hl
  · cases h
theorem rngI_3 {as : List RV} {l : List D} (h : rngI as = some l) (hl : as.length = 3) : ∃ i j : Int, as = [.v (.int i), .v (.int j), .v (.int (-1))] ∧ big62 i = true ∧ big62 j = true ∧ l = rngL i (-1) (i - j).toNat := by
  unfold rngI at h
  split at h
  · simp at hl
  · simp at hl
  · split at h <;> cases h
    rename_i hh
    rw [Bool.and_eq_true, Bool.and_eq_true] at hh
    have := eq_of_beq hh.1.1
    subst this
    exact ⟨_, _, rfl, hh.1.2, hh.2, rfl⟩
  · cases h
theorem RRs.ints2 {H0 G H : Hp} {σ : L2.St} {ρ : En} {vs : List V} {i j : Int} (h : RRs Z G H σ ρ H0 vs [.v (.int i), .v (.int j)]) : vs = [.int i, .int j] := by
  obtain ⟨v, u, H1, rfl, r1, r2⟩ := h.two
  rw [rr_int r1, rr_int r2]
theorem RRs.ints3 {H0 G H : Hp} {σ : L2.St} {ρ : En} {vs : List V} {i j k : Int} (h : RRs Z G H σ ρ H0 vs [.v (.int i), .v (.int j), .v (.int k)]) : vs = [.int i, .int j, .int k] := by
  cases h with
  | cons r1 _ _ t =>
    rw [rr_int r1, t.ints2]
theorem len2 {α : Type} {l : List α} (h : l.length = 2) : ∃ a b, l = [a, b] := by
  match l, h with
  | [a, b], _ => exact ⟨a, b, rfl⟩
theorem len3 {α : Type} {l : List α} (h : l.length = 3) : ∃ a b c, l = [a, b, c] := by
  match l, h with
  | [a, b, c], _ => exact ⟨a, b, c, rfl⟩
theorem pi_rng (hlen : ∀ ρ w rs w', fs ρ w = .ok rs w' → rs.length = es.length) (hes : es.length = 1 ∨ es.length = 2 ∨ es.length = 3) (hg : Gl X "range") (hm : X.mg "range" = none) (ha : PA X es (SA Z Wx G0 E0 fs)) (hns : ∀ y ∈ es, ∀ z q, y ≠ .Starred z q) :
    PI X tg (.Call (.Name "range" p) es [] pos) (SI Z Wx G0 E0 fun ρ w => (fs ρ w).bind fun rs w => .opt (rngI rs) w) := by
  have key : ∀ {σ : L2.St} {H : Hp} {R : It → Hp → Prop}, SI Z Wx G0 E0 (fun ρ w => (fs ρ w).bind fun rs w => .opt (rngI rs) w) σ H R → SA Z Wx G0 E0 fs σ H fun vs H1 => ∃ (rs : List RV) (l : List D), rs.length = es.length ∧ rngI rs = some l ∧ ∃ (G1 : Hp) (ρ : En) (w1 : Dw) (G : Hp), RRs Z G1 H1 σ ρ H vs rs ∧ ∀ J, ItOk Z J G1 l → R J H1 := by
    intro σ H R ⟨G, ρ, w, S, k⟩
    refine ⟨G, ρ, w, S, ?_⟩
    dsimp only at k
    cases q : fs ρ w with
    | bad => rw [q] at k; exact k.elim
    | exc er w' => rw [q] at k; exact k
    | ok rs w1 =>
      rw [q] at k
      obtain ⟨l, e, k⟩ := out_opt.mp (show Out Z Wx G0 E0 _ (.opt (rngI rs) w1) from k)
      exact fun vs G1 H1 x1 S1 r1 => ⟨rs, l, hlen ρ w rs w1 q, e, G1, ρ, w1, G, r1, fun J hj => k J G1 H1 x1 S1 hj⟩
  have st := fun y hy => starEach_cons (env := X.env) (es := []) (hns y hy)
  rcases hes with he | he | he
  · obtain ⟨e1, rfl⟩ := List.length_eq_one_iff.mp he
    refine PI.imp (pi_range1 hg hm ha (starEach_cons (hns e1 (by simp)))) fun σ H R k => ?_
    refine TAmono (key k) fun vs H1 ⟨rs, l, hl, e, G1, ρ, w1, G, r1, kk⟩ => ?_
    obtain ⟨j, rfl, hb, rfl⟩ := rngI_1 e hl
    obtain ⟨v, rfl, rv⟩ := r1.one
    exact ⟨j, by rw [rr_int rv], (big_of hb).1, (big_of hb).2, kk _ itok_rng⟩
  · obtain ⟨e1, e2, rfl⟩ := len2 he
    refine PI.imp (pi_range2 hg hm ha (by rw [starEach_cons (hns e1 (by simp)), starEach_cons (hns e2 (by simp))]; rfl) (by rw [starEach_cons (hns e2 (by simp))]; rfl)) fun σ H R k => ?_
    refine TAmono (key k) fun vs H1 ⟨rs, l, hl, e, G1, ρ, w1, G, r1, kk⟩ => ?_
    obtain ⟨i, j, rfl, hb, hb2, rfl⟩ := rngI_2 e hl
    exact ⟨i, j, r1.ints2, ⟨(big_of hb).1, (big_of hb).2, (big_of hb2).1, (big_of hb2).2⟩, kk _ itok_rng⟩
  · obtain ⟨e1, e2, e3, rfl⟩ := len3 he
    refine PI.imp (pi_range3 hg hm ha (starEach_cons (hns e1 (by simp))) (by rw [starEach_cons (hns e2 (by simp)), starEach_cons (hns e3 (by simp))]; rfl)) fun σ H R k => ?_
    refine TAmono (key k) fun vs H1 ⟨rs, l, hl, e, G1, ρ, w1, G, r1, kk⟩ => ?_
    obtain ⟨i, j, rfl, hb, hb2, rfl⟩ := rngI_3 e hl
    exact ⟨i, j, -1, _, r1.ints3, RgC.neg (big_of hb).1 (big_of hb).2 (big_of hb2).1 (big_of hb2).2, kk _ itok_rngC⟩
end
end VM
set_option Elab.async false
set_option linter.all false
set_option maxRecDepth 100000
/-! VmZd: t[::-1]; list(range(..)), tuple(range(..)). -/
namespace VM
open PySem PySem.Spec L2
section
open PyProof.Rows HT
variable {prog : Program} {w : World} {A : Around} {E : Value → Shared → Prop} {s : Shared}
theorem adjust_rev (n : Nat) : Builtin.Slice.sliceAdjust none none (-1) (n : Int) = ((n : Int) - 1, -1) := by
  first | rfl | (unfold Builtin.Slice.sliceAdjust; simp)
theorem places_rev (n : Nat) : Builtin.Slice.slicePlaces ((n : Int) - 1) (-1) (-1) = n := by
  unfold Builtin.Slice.slicePlaces
  have h1 : ¬ ((-1 : Int) > 0) := by decide
  simp only [h1, if_false]
  split
  · have e : ((n : Int) - 1 - -1 - 1) / (- -1) + 1 = (n : Int) := by
      rw [show (- -1 : Int) = 1 by decide, Int.ediv_one]
      omega
    rw [e]
    simp
  · have : n = 0 := by omega
    subst this
    rfl
theorem sliceApplied_rev {sl : Addr} {vs : Value} {n : Nat} {Q : Int × Int × Nat → Shared → Prop} (hs : s.heap.IsSliceOf sl .none .none vs) (ps : IsPart vs (some (-1)))
    (h : Q ((n : Int) - 1, -1, n) s) : wpAny (model prog w) A (Builtin.Slice.sliceApplied (.ref sl) (pure (n : Int))) Q E s := by
  obtain ⟨os, hos, hcs, hds⟩ := id hs
  unfold Builtin.Slice.sliceApplied Builtin.Slice.sliceFields
  refine wpAny_bind (wpAny_bind (wpAny_field hos hds (x := .none) rfl (wpAny_bind (wpAny_field hos hds (x := .none) rfl (wpAny_bind (wpAny_field hos hds (x := vs) rfl (wpAny_pure ?_)))))))
  refine wpAny_bind (slicePart_ ps ?_)
  show wpAny _ _ (if ((-1 : Int) == 0) = true then _ else _) _ _ s
  rw [if_neg (by decide)]
  refine wpAny_bind (slicePart_none (wpAny_bind (slicePart_none (wpAny_bind (wpAny_pure ?_)))))
  show wpAny _ _ (match Builtin.Slice.sliceAdjust none none (-1) (n : Int) with | (lo, hi) => pure (lo, (-1 : Int), Builtin.Slice.slicePlaces lo hi (-1))) _ _ s
  rw [adjust_rev n]
  show wpAny _ _ (pure ((n : Int) - 1, (-1 : Int), Builtin.Slice.slicePlaces ((n : Int) - 1) (-1) (-1))) _ _ s
  rw [places_rev]
  exact wpAny_pure h
theorem fm_congr {α β : Type} {f g : α → Option β} : ∀ {l : List α}, (∀ x ∈ l, f x = g x) → l.filterMap f = l.filterMap g
  | [], _ => rfl
  | a :: l, h => by rw [List.filterMap_cons, List.filterMap_cons, h a List.mem_cons_self, fm_congr fun x hx => h x (List.mem_cons_of_mem _ hx)]
theorem pick_rev (xs : Array Value) : ((List.range xs.size).filterMap fun (m : Nat) => xs[(((xs.size : Int) - 1) + (m : Int) * (-1)).toNat]?).toArray = xs.toList.reverse.toArray := by
  have e : (List.range xs.size).filterMap (fun (m : Nat) => xs[(((xs.size : Int) - 1) + (m : Int) * (-1)).toNat]?) = ((List.range xs.size).map fun k => xs.size - 1 - k).filterMap (xs[·]?) := by
    rw [List.filterMap_map]
    apply fm_congr
    intro m hm
    have := List.mem_range.mp hm
    show xs[_]? = xs[xs.size - 1 - m]?
    rw [show (((xs.size : Int) - 1) + (m : Int) * (-1)).toNat = xs.size - 1 - m by omega]
  rw [e, PySem.W.krv_range, List.filterMap_reverse, PySem.W.krv_all]
theorem getItem_tuple_rev {t sl : Addr} {items : Array Value} {vs : Value} {Q : Value → Shared → Prop} (ht : IsTup s.heap t items) (hs : s.heap.IsSliceOf sl .none .none vs) (ps : IsPart vs (some (-1)))
    (h : Q (.ref s.heap.objs.size) { s with heap := s.heap.push { cls := .type "tuple", data := .seq items.toList.reverse.toArray } })
    (hsz : items.size ≤ sizeLine) : wpAny (model prog w) A (getItem (.ref t) (.ref sl)) Q E s := by
  have htake : sizeOk (.seq items.toList.reverse.toArray) := by
    show items.toList.reverse.toArray.size ≤ sizeLine
    rw [List.size_toArray, List.length_reverse, Array.length_toList]
    exact hsz
  obtain ⟨os, hos, hcs, hds⟩ := id hs
  have hTs : s.TypeIs (.ref sl) "slice" := ⟨os, hos, hcs⟩
  unfold getItem
  try with_reducible refine wpAny_holding ?_
  first | refine wpAny_bind (wpAny_pure ?_) | skip
  refine wpAny_bind (wpAny_sequenceKey ht.typeIs (by decide) ?_)
  refine wpAny_bind (wpAny_callSpecial?_slot (name := Str.ofString "__getitem__") ht.typeIs PyProof.Rows.slot_tuple_getitem
    (wpAny_call_entry PyProof.Rows.slot_tuple_getitem ht.typeIs entry_tuple_getitem ?_ (args_tuple_getitem _ _)))
  show wpAny _ _ (Builtin.Tuple.tupleItemsOf (.ref t) >>= _) _ _ s
  refine wpAny_bind (tupleItemsOf_ ht ?_)
  refine wpAny_bind (wpAny_typeOf hTs ?_)
  rw [if_pos (by decide)]
  refine wpAny_bind (sliceApplied_rev hs ps ?_)
  have hno : ¬ ((((items.size : Int) - 1) == 0 && (-1 : Int) == 1 && items.size == items.size) = true) := by
    intro q
    rw [Bool.and_eq_true, Bool.and_eq_true] at q
    exact absurd q.1.2 (by decide)
  show wpAny _ _ (if (((items.size : Int) - 1) == 0 && (-1 : Int) == 1 && items.size == items.size) = true then _ else _) _ _ s
  rw [if_neg hno, pick_rev]
  first
    | exact wpAny_bind (m := Builtin.Tuple.tupleExact _) (wpAny_newObj_type (wpAny_pure ⟨_, rfl, wpAny_pure h⟩) htake)
    | exact wpAny_bind (m := Builtin.Tuple.tupleExact _) (wpAny_newObj_type (wpAny_bind (wpAny_pure (wpAny_pure ⟨_, rfl, wpAny_pure h⟩))) htake)
    | exact wpAny_bind (wpAny_bind (m := Builtin.Tuple.tupleExact _) (wpAny_newObj_type (wpAny_pure (wpAny_pure ⟨_, rfl, wpAny_pure h⟩)) htake))
    | exact wpAny_bind (wpAny_bind (m := Builtin.Tuple.tupleExact _) (wpAny_newObj_type (wpAny_pure ⟨_, rfl, wpAny_pure h⟩) htake))
end
def tRevA (K : PySem.W.Frag) (te : TE) : TE := fun σ H Q => te σ H fun x H1 => ∃ a xs, x = .ref a ∧ ((SqL K H1 a xs ∧ ∀ p, H1 p = none → Q (.ref p) (upd H1 p (.lst xs.reverse))) ∨ (SqT K H1 a xs ∧ ∀ p, H1 p = none → Q (.ref p) (upd H1 p (.tup xs.reverse))))
section
variable {X : Cx}
open PyProof.Rows in
theorem pe_revA {e : Expr} {te : TE} {k : Nat} {p1 p2 p3 pos : Pos} (he : PE X e te) : PE X (.Subscript e (.Slice none none (some (.UnaryOp .USub (.Constant (.int 1) k p1) p2)) p3) pos) (tRevA X.K te) := by
  refine ⟨fun pins s σ H Q I h => ?_⟩
  refine Subscript_ (thn (he.run pins s σ H _ I h) fun v s1 ⟨x, H1, I1, r1, q1⟩ => ?_)
  obtain ⟨a, xs, ex, q⟩ := q1
  subst ex
  cases r1
  have hst : PO X (some (.UnaryOp .USub (.Constant (.int 1) k p1) p2)) (tPart (tUn (rU fun i => .int (-i)) (tC (.int 1)))) := po_some (pe_un un_neg pe_int)
  refine wpAny_Slice ?_
  rw [evalPart_none]
  refine wpAny_pure (wpAny_pure ?_)
  refine thn (hst.run pins s1 σ H1 (fun o H4 => o = some (-1) ∧ H4 = H1) I1 ⟨1, rfl, -1, rfl, rfl, rfl⟩) fun vs s4 ⟨o, H4, I4, ps, eo, e4⟩ => ?_
  subst eo e4
  have I5 : L2.Inv X pins σ H4 { s4 with heap := s4.heap.push { cls := .type "slice", data := .fields #[.none, .none, vs] } } := I4.kept (t' := s4.toks) fun b ob q => Heap.get?_push_of_some _ q
  show wpAny (model X.prog X.w) X.A (subscriptTail e (.Slice none none (some (.UnaryOp .USub (.Constant (.int 1) k p1) p2)) p3) (.ref a) (.ref s4.heap.objs.size)) (EP X pins σ Q) X.xe { s4 with heap := s4.heap.push { cls := .type "slice", data := .fields #[.none, .none, vs] } }
  rcases q with ⟨hx, q⟩ | ⟨hx, q⟩
  · obtain ⟨its, r, ht, hz⟩ := I5.list hx
    have hlen := r.length
    refine tail_any (ops := [.ref a, .ref s4.heap.objs.size]) ht.isList.typeIs (PySem.slot_list_getitem.lookup) ?_ (by with_unfolding_all rfl)
    refine wpAny_getItem_list_slice ht.isList (Heap.IsSliceOf.new _ .none .none vs) .none .none ps (by decide) ?_ (by rw [List.size_toArray]; omega)
    rw [PySem.W.krv_pick]
    refine ⟨.ref _, _, I5.laid (t' := s4.toks) (o := .lst xs.reverse) (fun b ob q => Heap.get?_push_of_some _ q) (Nat.le_refl _) ?_, rfl, q _ (I5.hok.fresh (Nat.le_refl _))⟩
    exact ⟨by rw [List.length_reverse]; exact hz, _, 0, r.reverse, Heap.get?_push_size _ rfl⟩
  · obtain ⟨its, r, ht, hz⟩ := I5.tuple hx
    have hlen := r.length
    refine tail_any (ops := [.ref a, .ref s4.heap.objs.size]) ht.typeIs (PyProof.Rows.slot_tuple_getitem.lookup) ?_ (by with_unfolding_all rfl)
    refine getItem_tuple_rev ht (Heap.IsSliceOf.new _ .none .none vs) ps ?_ (by rw [List.size_toArray]; omega)
    refine ⟨.ref _, _, I5.laid (t' := s4.toks) (o := .tup xs.reverse) (fun b ob q => Heap.get?_push_of_some _ q) (Nat.le_refl _) ?_, rfl, q _ (I5.hok.fresh (Nat.le_refl _))⟩
    exact ⟨by rw [List.length_reverse]; exact hz, _, r.reverse, IsTup.new _ _⟩
end
section
variable {Z : Zed} {Wx : Value → Option Addr → Hp → Prop} {G0 E0 : Hp} {X : Cx} {a b : Expr} {p p2 pos pos2 : Pos} {f g : En → Dw → Res RV}
theorem pe_rvs {k : Nat} {p1 p2 p3 : Pos} (hK : X.K = Z.K) (ha : PE X a (SE Z Wx G0 E0 f)) : PE X (.Subscript a (.Slice none none (some (.UnaryOp .USub (.Constant (.int 1) k p1) p2)) p3) pos) (SE Z Wx G0 E0 fun ρ w => (f ρ w).bind fun u w => match u.seq with
    | some (true, ds) => .ok (.v (.tup ds.reverse)) w
    | some (false, ds) => .ok (.n ds.reverse) w
    | none => .bad) :=
  PE.imp (pe_revA ha) fun σ H Q ⟨G, ρ, w, S, kk⟩ => ⟨G, ρ, w, S, (out_bind.mp kk).mono fun u w1 h1 v1 G1 H1 x1 S1 r1 => by
    cases q : u.seq with
    | none => rw [q] at h1; exact h1.elim
    | some kd =>
      obtain ⟨t, ds⟩ := kd
      rw [q] at h1
      cases t with
      | true =>
        obtain ⟨p, xs, rfl, h2, h3, _⟩ := r1.seqT S1.gl q
        exact ⟨p, xs, rfl, .inr ⟨by rw [hK]; exact h2, fun l hl => KE.newT S1 (KE.trans x1 h1) h3.reverse hl⟩⟩
      | false =>
        obtain ⟨p, xs, rfl, h2, h3⟩ := r1.seqL S1.gl q
        exact ⟨p, xs, rfl, .inl ⟨by rw [hK]; exact SqL.of h2, fun l hl => KE.newL S1 (KE.trans x1 h1) h3.reverse hl⟩⟩⟩
/-! ### list(range(..)) -/
theorem rgV_rng {G : Hp} (a b : Int) : RpL Z G (rgV a b) (rngL a 1 (b - a).toNat) := by
  unfold rgV rngL
  induction List.range (b - a).toNat with
  | nil => exact .nil
  | cons i l ih =>
    rw [List.map_cons, List.map_cons]
    refine .cons ?_ ih
    rw [Int.mul_one]
    exact .int _
/-- range(a), range(a, b): the text; the bounds -/
theorem sq_end {k : Bool} {G0 E0 G H G1 H1 : Hp} {σ : L2.St} {ρ : En} {w1 : Dw} {i j : Int} {Q : VK} (x1 : Nx G H G1 H1) (S1 : Stt Z G0 E0 G1 H1 σ ρ w1) (h1 : big62 i = true) (h2 : big62 j = true)
    (kk : Out Z Wx G0 E0 (KE Z G0 E0 G H σ ρ Q) (if (rngL i 1 (j - i).toNat).length ≤ sizeLine then .ok (if k then .v (.tup (rngL i 1 (j - i).toNat)) else .n (rngL i 1 (j - i).toNat)) w1 else .bad)) :
    RgOk i j ∧ ∀ q, H1 q = none → Q (.ref q) (upd H1 q (if k then .tup (rgV i j) else .lst (rgV i j))) := by
  split at kk
  · rename_i hz
    rw [rngL_length, sizeLine_eq] at hz
    refine ⟨⟨(big_of h1).1, (big_of h1).2, (big_of h2).1, (big_of h2).2, by omega⟩, fun q hq => ?_⟩
    cases k with
    | true => exact KE.newT S1 (KE.trans x1 kk) (rgV_rng i j) hq
    | false => exact KE.newL S1 (KE.trans x1 kk) (rgV_rng i j) hq
  · exact kk.elim
theorem pe_sq {k : Bool} {te : L2.St → Hp → (Int → Int → Hp → Prop) → Prop} {fS : En → Dw → Res (List D)} {r : Expr} (hc : X.calm = true) (hg : Gl X (if k then "tuple" else "list")) (hm : X.mg (if k then "tuple" else "list") = none) (he : PRg X r te) (hs : ∀ y q, r ≠ .Starred y q)
    (hr : ∀ {σ : L2.St} {H : Hp} {Q : VK}, SE Z Wx G0 E0 (fun ρ w => (fS ρ w).bind fun ds w => if ds.length ≤ sizeLine then .ok (if k then .v (.tup ds) else .n ds) w else .bad) σ H Q → te σ H fun a b H1 => RgOk a b ∧ ∀ q, H1 q = none → Q (.ref q) (upd H1 q (if k then .tup (rgV a b) else .lst (rgV a b)))) :
    PE X (.Call (.Name (if k then "tuple" else "list") p) [r] [] pos) (SE Z Wx G0 E0 fun ρ w => (fS ρ w).bind fun ds w => if ds.length ≤ sizeLine then .ok (if k then .v (.tup ds) else .n ds) w else .bad) := by
  cases k with
  | true => exact PE.imp (pe_tupRg hc hg hm he (starEach_cons hs)) fun σ H Q h => hr h
  | false => exact PE.imp (pe_listRg hc hg hm he (starEach_cons hs)) fun σ H Q h => hr h
theorem pe_sq1 {k : Bool} (hc : X.calm = true) (hg : Gl X (if k then "tuple" else "list")) (hm : X.mg (if k then "tuple" else "list") = none) (hg2 : Gl X "range") (hm2 : X.mg "range" = none) (ha : PE X a (SE Z Wx G0 E0 f)) (hs : ∀ y q, a ≠ .Starred y q) :
    PE X (.Call (.Name (if k then "tuple" else "list") p) [.Call (.Name "range" p2) [a] [] pos2] [] pos) (SE Z Wx G0 E0 fun ρ w => (((f ρ w).bind fun u w => (Res.ok ([] : List RV) w).bind fun us w => .ok (u :: us) w).bind fun rs w => .opt (rngI rs) w).bind fun ds w => if ds.length ≤ sizeLine then .ok (if k then .v (.tup ds) else .n ds) w else .bad) :=
  pe_sq (fS := fun ρ w => ((f ρ w).bind fun u w => (Res.ok ([] : List RV) w).bind fun us w => .ok (u :: us) w).bind fun rs w => .opt (rngI rs) w) hc hg hm (prg_1 hg2 hm2 ha (starEach_cons hs)) (by nofun) fun {σ H Q} ⟨G, ρ, w, S, kk⟩ => ⟨G, ρ, w, S, (out_bind.mp (out_bind.mp (out_bind.mp kk))).mono fun u w1 h1 v1 G1 H1 x1 S1 r1 => by
    obtain ⟨l, e, h9⟩ := out_opt.mp h1
    obtain ⟨j, e2, hb, rfl⟩ := rngI_1 e rfl
    cases e2
    have r1 := rr_int r1
    subst r1
    refine ⟨j, rfl, sq_end (Wx := Wx) x1 S1 (by decide) hb ?_⟩
    rw [Int.sub_zero]
    exact h9⟩
theorem pe_sq2 {k : Bool} (hc : X.calm = true) (hg : Gl X (if k then "tuple" else "list")) (hm : X.mg (if k then "tuple" else "list") = none) (hg2 : Gl X "range") (hm2 : X.mg "range" = none) (ha : PE X a (SE Z Wx G0 E0 f)) (hb : PE X b (SE Z Wx G0 E0 g)) (hs : ∀ y q, a ≠ .Starred y q) (hs2 : ∀ y q, b ≠ .Starred y q) :
    PE X (.Call (.Name (if k then "tuple" else "list") p) [.Call (.Name "range" p2) [a, b] [] pos2] [] pos) (SE Z Wx G0 E0 fun ρ w => (((f ρ w).bind fun u w => ((g ρ w).bind fun u w => (Res.ok ([] : List RV) w).bind fun us w => .ok (u :: us) w).bind fun us w => .ok (u :: us) w).bind fun rs w => .opt (rngI rs) w).bind fun ds w => if ds.length ≤ sizeLine then .ok (if k then .v (.tup ds) else .n ds) w else .bad) :=
  pe_sq (fS := fun ρ w => ((f ρ w).bind fun u w => ((g ρ w).bind fun u w => (Res.ok ([] : List RV) w).bind fun us w => .ok (u :: us) w).bind fun us w => .ok (u :: us) w).bind fun rs w => .opt (rngI rs) w) hc hg hm (prg_2 hg2 hm2 ha hb (starEach_cons hs) (starEach_cons hs2) (by rw [starEach_cons hs2]; rfl)) (by nofun) fun {σ H Q} ⟨G, ρ, w, S, kk⟩ => ⟨G, ρ, w, S, (out_bind.mp (out_bind.mp (out_bind.mp kk))).mono fun u w1 h1 v1 G1 H1 x1 S1 r1 => ⟨G1, ρ, w1, S1, (out_bind.mp (out_bind.mp h1)).mono fun u2 w2 h2 v2 G2 H2 x2 S2 r2 => by
    obtain ⟨l, e, h9⟩ := out_opt.mp h2
    obtain ⟨i, j, e2, hb, hb2, rfl⟩ := rngI_2 e rfl
    cases e2
    have r1 := rr_int r1
    have r2 := rr_int r2
    subst r1 r2
    exact ⟨i, j, rfl, rfl, sq_end (Wx := Wx) (x1.trans x2) S2 hb hb2 h9⟩⟩⟩
end
end VM
set_option Elab.async false
set_option linter.all false
set_option maxRecDepth 100000
/-! VmZe: calls with keywords, calls of a def that a slot holds; names of the module; a, b = x, y. -/
namespace VM
open PySem PySem.Spec L2
section
variable {Z : Zed} {Wx : Value → Option Addr → Hp → Prop} {G0 E0 : Hp} {X : Cx} {k : Nat} {gu gf : Bool} {sc : Scope} {N : List Str} {e : Expr} {es : List Expr} {x : Str} {p pos : Pos} {fs gs : En → Dw → Res (List RV)}
/-- a name of the module -/
theorem pe_gk {v : V} {u : Value} {d : D} (hg : Gl X x) (hm : X.mg x = some u) (r : RelV v u) (hd : (x == ("__debug__" : Str)) = false) (rp : ∀ G, Rp Z G v d) : PE X (.Name x p) (SE Z Wx G0 E0 fun _ w => .ok (.v d) w) := pe_val (pe_glob hg hm r hd) rp
/-! ### keywords -/
theorem ordL_len {α : Type} {dflt : α} {np nk : Nat} {ord : List Nat} {us ws : List α} (h1 : us.length = np) (h2 : ws.length = nk) : (ordL dflt np nk ord us ws).length = ord.length := by
  unfold ordL
  rw [if_pos ⟨h1, h2⟩, List.length_map]
theorem ordL_of {α : Type} {dflt : α} {np nk : Nat} {ord : List Nat} {us ws : List α} (h : (ordL dflt np nk ord us ws) ≠ []) : us.length = np ∧ ws.length = nk := by
  unfold ordL at h
  split at h
  · assumption
  · exact absurd rfl h
theorem vals_getD {vs : List V} {us : List Value} (r : Vals vs us) (i : Nat) : RelV (vs.getD i .non) (us.getD i .none) := by
  rw [List.getD_eq_getElem?_getD, List.getD_eq_getElem?_getD]
  cases h : vs[i]? with
  | none =>
    have h2 : us[i]? = none := by
      rw [List.getElem?_eq_none_iff] at h ⊢
      rw [← r.length]
      exact h
    rw [h2]
    exact rfl
  | some v =>
    obtain ⟨u, hu, ru⟩ := r.get h
    rw [hu]
    exact ru
theorem ordL_vals {np nk : Nat} {ord : List Nat} {vs zs : List V} {us ws : List Value} (r : Vals vs us) (rz : Vals zs ws) : Vals (ordL .non np nk ord vs zs) (ordL .none np nk ord us ws) := by
  unfold ordL
  rw [r.length, rz.length]
  split
  · have ra := r.append rz
    induction ord with
    | nil => exact .nil
    | cons i l ih => exact .cons (vals_getD ra i) ih
  · exact .nil
theorem run_fnkG {CX : CXT} {f : Addr} {fd : FuncData} {ps ks : List Str} {sp : Sp} {E : XK} {np : Nat} {ord : List Nat} {pins : List (Addr × Obj)} {σ : L2.St} {H : Hp} {s : Shared} {Q : VK} {us ws : List Value} {vs zs : List V} (F : FnG gf X.prog X.w X.K X.mg X.base CX k f fd ps sp) (hr : Room k X.A) (hgu : gf = true → X.A.guards = some [])
    (hb : ∀ us ws : List Value, us.length = np → ws.length = ks.length → bindArgs fd ⟨us, ks.zip ws⟩ = pure (ps.zip (ordL .none np ks.length ord us ws))) (hx : Passes CX X E) (h1 : us.length = np) (h2 : ws.length = ks.length)
    (I : L2.Inv X pins σ H s) (r : Vals vs us) (rz : Vals zs ws) (h : sp (ordL .non np ks.length ord vs zs) H Q E) : wpAny (model X.prog X.w) X.A (call (.ref f) us (ks.zip ws)) (EP X pins σ Q) X.xe s := by
  refine wpAny_call (codeAny_mono (F.run X.A X.stack s H ⟨us, ks.zip ws⟩ (ordL .none np ks.length ord us ws) (ordL .non np ks.length ord vs zs) Q E hr hgu I.env0 (.of_eq (hb us ws h1 h2)) (ordL_vals r rz) h) fun r s' hq => ?_)
  cases r with
  | error e => exact hx pins σ H s e s' I hq
  | ok fl =>
    cases fl with
    | ret u => exact I.after hq
    | _ => exact False.elim hq
/-- f(e, .., k = v, ..) -/
theorem pe_callKG {CX : CXT} {f : Addr} {fd : FuncData} {ps ks : List Str} {sp : Sp} {E : XK} {np : Nat} {ord : List Nat} {kws : List Keyword} {t tk : TA} (F : FnG gf X.prog X.w X.K X.mg X.base CX k f fd ps sp) (hr : Room k X.A) (hgu : gf = true → X.A.guards = some []) (hg : Gl X x) (hm : X.mg x = some (.ref f)) (hk : PySem.W.keepIn X.K (.ref f) = true)
    (hb : ∀ us ws : List Value, us.length = np → ws.length = ks.length → bindArgs fd ⟨us, ks.zip ws⟩ = pure (ps.zip (ordL .none np ks.length ord us ws))) (hx : Passes CX X E)
    (ha : PA X (e :: es) t) (hkw : PK X kws tk) (hall : (backToKw pos (keywordEach kws X.env)).all (·.1.isSome) = true) (hks : (backToKw pos (keywordEach kws X.env)).filterMap (·.1) = ks)
    (hdb : (x == ("__debug__" : Str)) = false) (hns : ∀ y ∈ e :: es, ∀ z q, y ≠ .Starred z q) (hnk : (backToKw pos (keywordEach kws X.env)).any (·.1.isNone) = false) :
    PE X (.Call (.Name x p) (e :: es) kws pos) (fun σ H Q => t σ H fun vs H1 => tk σ H1 fun zs H2 => vs.length = np ∧ zs.length = ks.length ∧ sp (ordL .non np ks.length ord vs zs) H2 Q E) := by
  refine ⟨fun pins s σ H Q I h => ?_⟩
  refine wpAny_Call_Name_kw (ld_glob I hg hm ?_ hdb)
  refine PySem.W.callWith_KW (h₀ := X.base) I.ok.mod.kin hk hall (thn (ha.run pos pins s σ H _ I h) fun us s1 ⟨vs, H1, I1, r, q⟩ => ?_) (by rw [backTo_plain hns, hnk]; rfl) (starEach_cons (hns e List.mem_cons_self))
  refine thn (hkw.run pos pins s1 σ H1 _ I1 q) fun ws s2 ⟨zs, H2, I2, rz, h1, h2, q2⟩ => ⟨I2.kIn, ?_⟩
  rw [hks]
  exact run_fnkG (us := us) F hr hgu hb hx (by rw [← r.length, h1]) (by rw [← rz.length, h2]) I2 r rz q2
theorem pe_callKG0 {CX : CXT} {f : Addr} {fd : FuncData} {ps ks : List Str} {sp : Sp} {E : XK} {ord : List Nat} {kws : List Keyword} {tk : TA} (F : FnG gf X.prog X.w X.K X.mg X.base CX k f fd ps sp) (hr : Room k X.A) (hgu : gf = true → X.A.guards = some []) (hg : Gl X x) (hm : X.mg x = some (.ref f)) (hk : PySem.W.keepIn X.K (.ref f) = true)
    (hb : ∀ us ws : List Value, us.length = 0 → ws.length = ks.length → bindArgs fd ⟨us, ks.zip ws⟩ = pure (ps.zip (ordL .none 0 ks.length ord us ws))) (hx : Passes CX X E)
    (hkw : PK X kws tk) (hall : (backToKw pos (keywordEach kws X.env)).all (·.1.isSome) = true) (hks : (backToKw pos (keywordEach kws X.env)).filterMap (·.1) = ks)
    (hdb : (x == ("__debug__" : Str)) = false) (hnk : (backToKw pos (keywordEach kws X.env)).any (·.1.isNone) = false) :
    PE X (.Call (.Name x p) [] kws pos) (fun σ H Q => tk σ H fun zs H2 => zs.length = ks.length ∧ sp (ordL .non 0 ks.length ord [] zs) H2 Q E) := by
  refine ⟨fun pins s σ H Q I h => ?_⟩
  refine wpAny_Call_Name_kw (ld_glob I hg hm ?_ hdb)
  refine PySem.W.callWith_KW0 (h₀ := X.base) I.ok.mod.kin hk hall (thn (hkw.run pos pins s σ H _ I h) fun ws s2 ⟨zs, H2, I2, rz, h2, q2⟩ => ⟨I2.kIn, ?_⟩) (by rw [hnk]; rfl)
  rw [hks]
  exact run_fnkG (us := []) (vs := []) F hr hgu hb hx rfl (by rw [← rz.length, h2]) I2 .nil rz q2
/-! ### the readings -/
variable (Z Wx G0 E0) in
/-- the keywords' values, as arguments are read -/
theorem pk_n : PK X [] (SA Z Wx G0 E0 fun _ w => .ok [] w) := ⟨fun pos pins s σ H Q I ⟨G, ρ, w, S, kk⟩ => pk_nil.run pos pins s σ H Q I (kk [] G H (Nx.refl G H) S .nil)⟩
theorem pk_c {f : En → Dw → Res RV} {nm : Option Str} {kpos : Pos} {kws : List Keyword} (ha : PE X e (SE Z Wx G0 E0 f)) (hr : PK X kws (SA Z Wx G0 E0 fs)) : PK X (⟨nm, e, kpos⟩ :: kws) (SA Z Wx G0 E0 fun ρ w => (f ρ w).bind fun u w => (fs ρ w).bind fun us w => .ok (u :: us) w) :=
  ⟨fun pos pins s σ H Q I ⟨G, ρ, w, S, kk⟩ => (pk_cons (nm := nm) (kpos := kpos) ha hr).run pos pins s σ H Q I ⟨G, ρ, w, S, (out_bind.mp kk).mono fun u w1 h1 v1 G1 H1 x1 S1 r1 =>
    ⟨G1, ρ, w1, S1, (out_bind.mp h1).mono fun us w2 h2 vs G2 H2 x2 S2 r2 => h2 (v1 :: vs) G2 H2 (x1.trans x2) S2 (.cons (S1.rrMono x2 r1) x1.dom (fun ds a er ev => by
      subst er
      obtain ⟨b, xs, e1, h1, _⟩ := r1
      rw [ev] at e1
      cases e1
      rw [h1]
      simp) r2)⟩⟩⟩
theorem reord_get {G : Hp} {xs : List V} {ds : List D} (r : RpL Z G xs ds) : ∀ {ord : List Nat} {es : List D}, reord ord ds = some es → RpL Z G (ord.map fun i => xs.getD i .non) es
  | [], es, e => by
    cases e
    exact .nil
  | i :: ord, es, e => by
    obtain ⟨d, l, e1, e2, rfl⟩ := mapM_cons (show (i :: ord).mapM (fun i => ds[i]?) = some es from e)
    obtain ⟨x, h1, h2⟩ := r.get e1
    refine .cons ?_ (reord_get r e2)
    show Rp Z G (xs.getD i .non) d
    rw [List.getD_eq_getElem?_getD, h1]
    exact h2
theorem pe_callk (c : FC Z k gu Wx X sc N) (hgu : gf = true → gu = true) {F : List D → Dw → Res RV} {a : Addr} {ps : List Str} {kt : KwT} (i : FnI Z k gf F a x ps kt) {np : Nat} {ks : List Str} {ord : List Nat} {kws : List Keyword} (hkt : (np, ks, ord) ∈ kt) (hg : Gl X x) (ha : PA X es (SA Z Wx G0 E0 fs)) (hkw : PK X kws (SA Z Wx G0 E0 gs))
    (hall : (backToKw pos (keywordEach kws X.env)).all (·.1.isSome) = true) (hks : (backToKw pos (keywordEach kws X.env)).filterMap (·.1) = ks) (hnk : (backToKw pos (keywordEach kws X.env)).any (·.1.isNone) = false) (hns : ∀ y ∈ es, ∀ z q, y ≠ .Starred z q) (ho : ord.length = ps.length)
    (hlen : ∀ ρ w rs w', fs ρ w = .ok rs w' → rs.length = np) (hlen2 : ∀ ρ w rs w', gs ρ w = .ok rs w' → rs.length = ks.length) (hnp : es.length = np) (hdb : (x == ("__debug__" : Str)) = false) (he0 : es = [] → fs = fun _ w => .ok [] w) :
    PE X (.Call (.Name x p) es kws pos) (SE Z Wx G0 E0 fun ρ w => (fs ρ w).bind fun rs w => match rs.mapM RV.toD with
    | none => .bad
    | some ds => (gs ρ w).bind fun rs2 w => match rs2.mapM RV.toD with
      | none => .bad
      | some es => match reord ord (ds ++ es) with
        | none => .bad
        | some ds => F ds w) := by
  obtain ⟨fd, h1, h2, h3⟩ := i.run c
  have hb := h3 _ hkt
  have hm : X.mg x = some (.ref a) := by rw [c.hm]; exact i.mg
  have hkp : PySem.W.keepIn X.K (.ref a) = true := by rw [c.hK]; exact i.kp
  -- behind the keywords
  have fin : ∀ {G H G1 H1 : Hp} {σ : L2.St} {ρ : En} {w w1 : Dw} {vs : List V} {ds : List D} {Q : VK}, Stt Z G0 E0 G H σ ρ w → Nx G H G1 H1 → Stt Z G0 E0 G1 H1 σ ρ w1 → RpL Z G1 vs ds → vs.length = np →
      Out Z Wx G0 E0 (KE Z G0 E0 G H σ ρ Q) ((gs ρ w1).bind fun rs2 w => match rs2.mapM RV.toD with
      | none => .bad
      | some es => match reord ord (ds ++ es) with
        | none => .bad
        | some ds => F ds w) → SA Z Wx G0 E0 gs σ H1 fun zs H2 => zs.length = ks.length ∧ spF Z ps.length F (ordL .non np ks.length ord vs zs) H2 Q Wx := by
    intro G H G1 H1 σ ρ w w1 vs ds Q S x1 S1 r1 hv kk
    refine ⟨G1, ρ, w1, S1, ?_⟩
    cases q : gs ρ w1 with
    | bad => rw [q] at kk; exact kk.elim
    | exc er w' => rw [q] at kk; exact kk
    | ok rs2 w2 =>
      rw [q] at kk
      intro zs G2 H2 x2 S2 r2
      have kk : Out Z Wx G0 E0 (KE Z G0 E0 G H σ ρ Q) (match rs2.mapM RV.toD with
        | none => .bad
        | some es => match reord ord (ds ++ es) with
          | none => .bad
          | some ds => F ds w2) := kk
      cases qd : rs2.mapM RV.toD with
      | none => rw [qd] at kk; exact kk.elim
      | some es2 =>
        rw [qd] at kk
        have kk : Out Z Wx G0 E0 (KE Z G0 E0 G H σ ρ Q) (match reord ord (ds ++ es2) with
          | none => .bad
          | some ds => F ds w2) := kk
        cases qo : reord ord (ds ++ es2) with
        | none => rw [qo] at kk; exact kk.elim
        | some ds3 =>
          rw [qo] at kk
          have hz : zs.length = ks.length := by rw [r2.length, hlen2 ρ w1 rs2 w2 q]
          refine ⟨hz, ?_⟩
          obtain ⟨G3, s3, x3, S3, r3⟩ := r2.datas S1 (fun _ h => h) x2 S2 qd
          have r4 := reord_get ((RpL.sub x3.g r1).append r3) qo
          have eo : ordL .non np ks.length ord vs zs = ord.map fun i => (vs ++ zs).getD i .non := by
            unfold ordL
            rw [if_pos ⟨hv, hz⟩]
          rw [eo]
          exact call_readL S (x1.trans x3) S3 r4 (by rw [List.length_map, ho]) kk
  cases es with
  | nil =>
    have e0 : np = 0 := hnp.symm
    subst e0
    refine PE.imp (pe_callKG0 h1 c.room (fun z => c.gd (hgu z)) hg hm hkp hb c.passes hkw hall hks hdb hnk) fun σ H Q ⟨G, ρ, w, S, kk⟩ => ?_
    rw [he0 rfl] at kk
    exact fin S (Nx.refl G H) S .nil rfl kk
  | cons e es =>
    refine PE.imp (pe_callKG h1 c.room (fun z => c.gd (hgu z)) hg hm hkp hb c.passes ha hkw hall hks hdb hns hnk) fun σ H Q ⟨G, ρ, w, S, kk⟩ => ?_
    refine ⟨G, ρ, w, S, ?_⟩
    dsimp only at kk
    cases q : fs ρ w with
    | bad => rw [q] at kk; exact kk.elim
    | exc er w' => rw [q] at kk; exact kk
    | ok rs w1 =>
      rw [q] at kk
      intro vs G1 H1 x1 S1 r1
      cases qd : rs.mapM RV.toD with
      | none =>
        have kk : Out Z Wx G0 E0 (KE Z G0 E0 G H σ ρ Q) (match rs.mapM RV.toD with
          | none => .bad
          | some ds => (gs ρ w1).bind fun rs2 w => match rs2.mapM RV.toD with
            | none => .bad
            | some es => match reord ord (ds ++ es) with
              | none => .bad
              | some ds => F ds w) := kk
        rw [qd] at kk
        exact kk.elim
      | some ds =>
        have kk : Out Z Wx G0 E0 (KE Z G0 E0 G H σ ρ Q) (match rs.mapM RV.toD with
          | none => .bad
          | some ds => (gs ρ w1).bind fun rs2 w => match rs2.mapM RV.toD with
            | none => .bad
            | some es => match reord ord (ds ++ es) with
              | none => .bad
              | some ds => F ds w) := kk
        rw [qd] at kk
        obtain ⟨G2, s2, x2, S2, r2⟩ := r1.datas S (fun _ h => h) x1 S1 qd
        have hv : vs.length = np := by rw [r1.length, hlen ρ w rs w1 q]
        have := fin S x2 S2 r2 hv kk
        obtain ⟨G9, ρ9, w9, S9, k9⟩ := this
        exact ⟨G9, ρ9, w9, S9, k9.mono fun a w h zs G' H' x S r => ⟨hv, h zs G' H' x S r⟩⟩
end
end VM
set_option Elab.async false
set_option linter.all false
set_option maxRecDepth 100000
/-! VmZf: calls of a def that a slot holds; a, b = x, y; x = [..]; x.append(y.pop(i)). -/
namespace VM
open PySem PySem.Spec L2
section
variable {Z : Zed} {Wx : Value → Option Addr → Hp → Prop} {G0 E0 : Hp} {X : Cx} {k : Nat} {gu : Bool} {sc : Scope} {N : List Str} {e : Expr} {es : List Expr} {x : Str} {p pos : Pos} {fs gs : En → Dw → Res (List RV)}
theorem pe_callXr {i : Nat} (c : FC Z k gu Wx X sc N) {Φ : Phi} (n : NmX X i x) {t : TA} (ha : PA X (e :: es) t) (hns : ∀ y ∈ e :: es, ∀ z p, y ≠ .Starred z p) :
    PE X (.Call (.Name x p) (e :: es) [] pos) (fun σ H Q => ∃ (f : Nat) (y : Str) (ps : List Str) (kt : KwT), FnI Z k false (Φ f) (Z.fa f) y ps kt ∧ σ[i]? = some (some (V.ref (Z.fa f))) ∧ t σ H fun vs H1 => spF Z ps.length (Φ f) vs H1 Q Wx) := by
  refine ⟨fun pins s σ H Q I h => ?_⟩
  obtain ⟨f, y, ps, kt, fi, hs, ht⟩ := h
  obtain ⟨fd, h1, h2, _⟩ := fi.run c
  refine wpAny_Call_Name_kw (thn ((n.pe (p1 := p)).run pins s σ H (fun v H1 => v = .ref (Z.fa f) ∧ H1 = H) I ⟨.ref (Z.fa f), hs, rfl, rfl⟩) fun u s1 ⟨v, H1, I1, r1, q1⟩ => ?_)
  obtain ⟨rfl, rfl⟩ := q1
  cases r1
  refine PySem.W.callWith_K (h₀ := X.base) I.ok.mod.kin (by rw [c.hK]; exact fi.kp) (thn (ha.run pos pins s1 σ _ _ I1 ht) fun us s2 ⟨vs, H2, I2, r, q⟩ => ⟨I2.kIn, ?_⟩) (starEach_cons (hns e List.mem_cons_self)) (backTo_plain fun y hy => hns y (List.mem_cons_of_mem _ hy))
  exact run_fnG (dvs := []) (ds := []) h1 c.room (fun z => by cases z) h2 .nil c.passes I2 r (by rw [List.append_nil]; exact q)
theorem pe_callx {i : Nat} (c : FC Z k gu Wx X sc N) {Φ : Phi} {cx : Nat → Bool} (hF : ∀ f, cx f = true → ∃ y ps kt, FnI Z k false (Φ f) (Z.fa f) y ps kt) (n : NmX X i x) (ha : PA X (e :: es) (SA Z Wx G0 E0 fs)) (hns : ∀ y ∈ e :: es, ∀ z p, y ≠ .Starred z p) :
    PE X (.Call (.Name x p) (e :: es) [] pos) (SE Z Wx G0 E0 fun ρ w => match ρ[i]? with
    | some (.v (.fn f)) => if cx f then (fs ρ w).bind fun rs w => match rs.mapM RV.toD with
      | none => .bad
      | some ds => Φ f ds w
      else .bad
    | _ => .bad) :=
  PE.imp (pe_callXr c (Φ := Φ) n ha hns) fun σ H Q ⟨G, ρ, w, S, kk⟩ => by
    dsimp only at kk
    split at kk
    case h_2 => exact kk.elim
    rename_i f hf
    split at kk
    case isFalse => exact kk.elim
    rename_i hcx
    obtain ⟨y, ps, kt, fi⟩ := hF f hcx
    obtain ⟨v, h1, h2⟩ := S.val i _ hf
    cases h2
    refine ⟨f, y, ps, kt, fi, h1, G, ρ, w, S, (out_bind.mp kk).mono fun rs w1 k1 vs G1 H1 x1 S1 r1 => ?_⟩
    cases qd : rs.mapM RV.toD with
    | none => rw [qd] at k1; exact k1.elim
    | some ds =>
      rw [qd] at k1
      obtain ⟨G2, s2, x2, S2, r2⟩ := r1.datas S (fun _ h => h) x1 S1 qd
      by_cases hl : ds.length = ps.length
      · exact call_readL S x2 S2 r2 (by rw [r2.length, hl]) k1
      · have k1 : Out Z Wx G0 E0 (KE Z G0 E0 G H σ ρ Q) (Φ f ds w1) := k1
        rw [fi.ar ds w1 hl] at k1
        exact k1.elim
/-! ### a, b = x, y -/
theorem parE_read {i j : Nat} {fs : En → Dw → Res (List RV)} {T : Ends} {σ : L2.St} {H : Hp} (hij : i ≠ j) (h : SS Z Wx G0 E0 (fun ρ w => (fs ρ w).bind fun rs w => match parE [i, j] rs ρ with
    | none => .bad
    | some ρ1 => .ok (ρ1, .nx) w) T σ H) : tPar i j (SA Z Wx G0 E0 fs) T σ H := by
  obtain ⟨G, ρ, w, S, kk⟩ := h
  refine ⟨G, ρ, w, S, (out_bind.mp kk).mono fun rs w1 k1 vs G1 H1 x1 S1 r1 => ?_⟩
  cases qp : parE [i, j] rs ρ with
  | none => rw [qp] at k1; exact k1.elim
  | some ρ1 =>
    rw [qp] at k1
    have k1 : Out Z Wx G0 E0 (KS Z G0 E0 G T) (.ok (ρ1, .nx) w1) := k1
    -- what the two are
    have e0 : ∀ {Hs : Hp} {a : Addr}, (∀ b, E0 b ≠ none → Hs b ≠ none) → Hs a = none → E0 a = none := fun {Hs a} d h => by
      cases q : E0 a with
      | none => rfl
      | some o => exact absurd h (d a (by rw [q]; simp))
    have put : ∀ {Hs : Hp} {σ' : L2.St} {ρ' : En} {l : Nat} {v : V} {r : RV} {sl : Sl}, Stt Z G0 E0 G1 H1 σ' ρ' w1 → RR Z Hs G1 H1 σ ρ v r → (∀ b, E0 b ≠ none → Hs b ≠ none) → (∀ (m : Nat) (es : List D) (a : Addr), ρ'[m]? = some (Sl.own es) → σ'[m]? = some (some (V.ref a)) → Hs a ≠ none) →
        ((∃ d, r = .v d ∧ sl = .v d) ∨ ∃ ds, r = .n ds ∧ sl = .own ds) → Stt Z G0 E0 G1 H1 (σ'.set l (some v)) (ρ'.set l sl) w1 := by
      intro Hs σ' ρ' l v r sl S' rr d own hr
      rcases hr with ⟨d', rfl, rfl⟩ | ⟨ds, rfl, rfl⟩
      · exact S'.setV rr
      · obtain ⟨a, xs, rfl, h1, h2, h3, h4⟩ := rr
        exact S'.putOwn h1 h2 (e0 d h3) h4 fun m es _ q1 q2 => own m es a q1 q2 h3
    have ownH : ∀ (m : Nat) (es : List D) (a : Addr), ρ[m]? = some (Sl.own es) → σ[m]? = some (some (V.ref a)) → H a ≠ none := fun m es a q1 q2 => by
      obtain ⟨b, xs, p1, p2, _⟩ := S.own m es q1
      rw [q2] at p1
      cases p1
      rw [p2]
      simp
    have one : ∀ {r : RV} {is : List Nat} {rs : List RV} {l : Nat} {ρ' ρ'' : En}, parE (l :: is) (r :: rs) ρ' = some ρ'' → ∃ sl, ((∃ d, r = .v d ∧ sl = Sl.v d) ∨ ∃ ds, r = .n ds ∧ sl = Sl.own ds) ∧ parE is rs (ρ'.set l sl) = some ρ'' := fun {r is rs l ρ' ρ''} e => by
      cases r with
      | v d => exact ⟨_, .inl ⟨d, rfl, rfl⟩, e⟩
      | n ds => exact ⟨_, .inr ⟨ds, rfl, rfl⟩, e⟩
      | m q ds => cases e
    cases rs with
    | nil => cases qp
    | cons ra rs =>
      obtain ⟨sa, ha, qp⟩ := one qp
      cases rs with
      | nil => cases qp
      | cons rb rs =>
        obtain ⟨sb, hb, qp⟩ := one qp
        cases rs with
        | cons _ _ => cases qp
        | nil =>
          cases qp
          cases r1 with
          | @cons _ Ha va _ _ _ rra da hna t =>
            cases t with
            | @cons _ Hb vb _ _ _ rrb db hnb t2 =>
              cases t2
              refine ⟨va, vb, rfl, ?_⟩
              have S2 := put (l := i) S1 rra S.nx.dom ownH ha
              refine k1 _ G1 H1 x1.g (put (l := j) S2 rrb (fun b q => da b (S.nx.dom b q)) (fun m es a q1 q2 => ?_) hb)
              by_cases z : i = m
              · subst z
                by_cases hi : i < ρ.length
                · rw [List.getElem?_set_self hi] at q1
                  rw [List.getElem?_set_self (by rw [S.len]; exact hi)] at q2
                  cases q2
                  rcases ha with ⟨d, _, e⟩ | ⟨ds, e, e'⟩
                  · rw [e] at q1; cases q1
                  · exact hna ds a e rfl
                · rw [List.getElem?_eq_none (by rw [List.length_set]; omega)] at q1
                  cases q1
              · rw [List.getElem?_set_ne z] at q1 q2
                exact da a (ownH m es a q1 q2)
theorem ss_par {i j : Nat} {y : Str} {a b : Expr} {px py pt : Pos} {kt k2 : Nat} {pt2 : Pos} (hc : X.calm = true) (hN : X.N.Nodup) (hi : X.N[i]? = some x) (hj : X.N[j]? = some y) (hij : i ≠ j) (hx : X.env.scope.names.lookup x = some .local) (hy : X.env.scope.names.lookup y = some .local) (ha : PA X [a, b] (SA Z Wx G0 E0 fs))
    (hw : swappedStores [.Tuple [.Name x px, .Name y py] kt pt] (.Tuple [a, b] k2 pt2) X.env = pure (some [x, y])) (hs : swapsWithSole [.Tuple [.Name x px, .Name y py] kt pt] (.Tuple [a, b] k2 pt2) pos.line X.env = pure false) :
    PS X (.Assign [.Tuple [.Name x px, .Name y py] kt pt] (.Tuple [a, b] k2 pt2) pos) (SS Z Wx G0 E0 fun ρ w => (fs ρ w).bind fun rs w => match parE [i, j] rs ρ with
    | none => .bad
    | some ρ1 => .ok (ρ1, .nx) w) :=
  PS.imp (ps_par hc hN hi hj hij hx hy ha hw hs) fun T σ H h => parE_read hij h
end
end VM
set_option Elab.async false
set_option linter.all false
set_option maxRecDepth 100000
/-! VmZg: x = [..]; x.append(y.pop(i)). -/
namespace VM
open PySem PySem.Spec L2
section
variable {Z : Zed} {Wx : Value → Option Addr → Hp → Prop} {G0 E0 : Hp} {X : Cx} {x y : Str} {pos : Pos} {f : En → Dw → Res RV}
theorem lc_mono {wi : TI} {g : TG} {tt : TT} {te : TE} {vs : List Nat} {σ : L2.St} {H : Hp} {Q Q2 : VK} (h : tLc wi g tt te vs σ H Q) (hi : ∀ {R R2 : It → Hp → Prop}, (∀ J H1, R J H1 → R2 J H1) → wi σ H R → wi σ H R2) (q : ∀ x H1, Q x H1 → Q2 x H1) : tLc wi g tt te vs σ H Q2 :=
  hi (fun J H1 k D hD => by
    obtain ⟨W, h1, h2⟩ := k D hD
    refine ⟨W, h1, fun i m H w => ?_⟩
    rcases h2 i m H w with ⟨a, b⟩ | z
    · exact .inl ⟨a, q _ _ b⟩
    · exact .inr z) h
theorem si_mono {fS : En → Dw → Res (List D)} {σ : L2.St} {H : Hp} {R R2 : It → Hp → Prop} (i : ∀ J H1, R J H1 → R2 J H1) (h : SI Z Wx G0 E0 fS σ H R) : SI Z Wx G0 E0 fS σ H R2 := by
  obtain ⟨G, ρ, w, S, k⟩ := h
  exact ⟨G, ρ, w, S, k.mono fun items w1 h J G1 H1 x1 S1 jt => i _ _ (h J G1 H1 x1 S1 jt)⟩
theorem ss_setLc {i : Nat} {py : Pos} {iter tg elt : Expr} {ifs : List Expr} {scope : Scope} {own : List (Str × Nat)} {p : Pt} {lpos : Pos} {fS : En → Dw → Res (List D)} {fT : En → Dw → Res Bool} (hc : X.calm = true) (hN : X.N.Nodup) (hy : X.N[i]? = some y) (hyl : X.env.scope.names.lookup y = some .local)
    (hsw : swapsWith (.ListComp elt [⟨tg, iter, ifs, 0⟩] scope lpos) (some (.Name y py)) pos.line X.env = pure true) (hi : PI X tg iter (SI Z Wx G0 E0 fS)) (ok : BlkOk X.N X.env.scope scope own)
    (hg : ∀ (s : Shared) (H : Hp) (C : Addr) (cl : List (Str × Addr)) (fp : List Addr), PG (X.blk s H scope (compEnvC scope cl C X.env) fp) tg (SG Z G0 E0 p)) (ht : ∀ (s : Shared) (H : Hp) (C : Addr) (cl : List (Str × Addr)) (fp : List Addr), PTs (X.blk s H scope (compEnvC scope cl C X.env) fp) ifs (SB Z W0 G0 E0 fT))
    (he : ∀ (s : Shared) (H : Hp) (C : Addr) (cl : List (Str × Addr)) (fp : List Addr), PE (X.blk s H scope (compEnvC scope cl C X.env) fp) elt (SE Z W0 G0 E0 f)) (hs : ∀ x, foldedSetIterable iter X.env x = pure x) (hp : ∀ i ∈ p.slots, i ∈ own.map (·.2)) :
    PS X (.Assign [.Name y py] (.ListComp elt [⟨tg, iter, ifs, 0⟩] scope lpos) pos) (SS Z Wx G0 E0 fun ρ w => ((fS ρ w).bind fun items w =>
      (compL (lcTurn p (wipeE ρ (own.map (·.2))) fT f) items w).bind fun l w => if items.length ≤ sizeLine then .ok (.n l) w else .bad).bind fun r w => match setE (.nm i) r ρ with
    | none => .bad
    | some ρ1 => .ok (ρ1, .nx) w) :=
  PS.imp (ps_setLc hc hN hy hyl hsw hi ok hg ht he hs) fun T σ H h => by
    have h1 := set_read h
    have h2 := lc_read hp h1
    have e : (fun x H1 => SGr Z G0 E0 (.nm i) x σ H1 T.nx) = fun x H1 => SGr Z G0 E0 (.nm i) x σ H1 T.nx := rfl
    exact lc_mono h2 si_mono fun x H1 q => nm_read q
theorem ss_appp {i j : Nat} {p1 p2 a1 a2 c1 c2 : Pos} {ix : Expr} (n : NmX X i x) (m : NmX X j y) (he : PE X ix (SE Z Wx G0 E0 f)) (hns : ∀ z q, ix ≠ .Starred z q) (hl1 : (a1.endLine == c1.line) = true) (hl2 : (a2.endLine == c2.line) = true) :
    PS X (.Expr (.Call (.Attribute (.Name x p1) "append" a1) [.Call (.Attribute (.Name y p2) "pop" a2) [ix] [] c2] [] c1) pos) (SS Z Wx G0 E0 fun ρ w => match ρ[i]?, ρ[j]? with
    | some (.own ds), some (.own es) => (f ρ w).bind fun r w => (match r with
      | .v (.int k) => if i = j ∨ sizeLine < es.length then .bad else (match L2.ixN es.length k with
        | some n => (match es[n]? with
          | some d => if ds.length < sizeLine then .ok ((ρ.set j (.own (es.eraseIdx n))).set i (.own (ds ++ [d])), .nx) w else .bad
          | none => .bad)
        | none => .bad)
      | _ => .bad)
    | _, _ => .bad) := by
  have hs := starEach_cons (es := []) (env := X.env) hns
  have pop := pe_bm PySem.F.plainAttrs_list PySem.F.slot_list_pop PySem.F.type_list_pop mt_popAt (m.pe (p1 := p2)) (pa_cons he pa_nil hs) (apos := a2) (cpos := c2) rfl (by rw [hs]; rfl) hl2 hs rfl
  refine PS.imp (ps_expr (pe_bm PySem.F.plainAttrs_list PySem.F.slot_list_append PySem.F.type_list_append mt_append (n.pe (p1 := p1)) (pa_cons pop pa_nil rfl) rfl rfl hl1 rfl rfl) rfl) fun T σ H ⟨G, ρ, w, S, k⟩ => ?_
  dsimp only at k
  split at k
  case h_2 => exact k.elim
  rename_i ds es qi qj
  obtain ⟨p, xs, hs1, hp1, r1⟩ := S.ownAt qi
  obtain ⟨q, ys, hs2, hq1, r2⟩ := S.ownAt qj
  refine ⟨_, hs1, .inl ⟨rfl, xs, SqL.of hp1⟩, _, hs2, .inl ⟨rfl, ys, SqL.of hq1⟩, G, ρ, w, S, (out_bind.mp k).mono fun r w1 h1 v G1 H1 x1 S1 rr => ?_⟩
  cases r with
  | n es => exact h1.elim
  | m i es => exact h1.elim
  | v d =>
    cases d with
    | int kk =>
      have rr := rr_int rr
      subst rr
      have h1 : Out Z Wx G0 E0 (KS Z G0 E0 G T) (if i = j ∨ sizeLine < es.length then .bad else (match L2.ixN es.length kk with
        | some n => (match es[n]? with
          | some d => if ds.length < sizeLine then .ok ((ρ.set j (.own (es.eraseIdx n))).set i (.own (ds ++ [d])), .nx) w1 else .bad
          | none => .bad)
        | none => .bad)) := h1
      split at h1
      · exact h1.elim
      rename_i hne
      have hij : i ≠ j := fun z => hne (.inl z)
      have hsz : es.length ≤ sizeLine := Nat.le_of_not_lt fun z => hne (.inr z)
      cases qx : L2.ixN es.length kk with
      | none => rw [qx] at h1; exact h1.elim
      | some n =>
        rw [qx] at h1
        cases qd : es[n]? with
        | none => simp only [qd] at h1; exact h1.elim
        | some d =>
          simp only [qd] at h1
          split at h1
          case isFalse => exact h1.elim
          rename_i hz
          obtain ⟨ys2, hq2, r3⟩ := S1.ownIs qj hs2
          obtain ⟨xs2, hp2, r4⟩ := S1.ownIs qi hs1
          obtain ⟨yv, e1, ry⟩ := r3.get qd
          obtain ⟨e2, e3, e4, e5⟩ := ixN_seq qx
          have hsl := sizeLine_eq
          refine ⟨q, ys2, kk, n, yv, rfl, rfl, hq2, by omega, by omega, by rw [r3.length]; exact e2, e1, ?_⟩
          have S2 := S1.setOwn qj hs2 hq2 (r3.erase n)
          have qi2 : (ρ.set j (.own (es.eraseIdx n)))[i]? = some (Sl.own ds) := by rw [List.getElem?_set_ne (Ne.symm hij)]; exact qi
          obtain ⟨xs3, hp3, r5⟩ := S2.ownIs qi2 hs1
          exact ⟨p, xs3, yv, rfl, rfl, hp3, by rw [r5.length]; exact hz, h1 σ G1 _ x1.g (S2.setOwn qi2 hs1 hp3 (r5.append (.cons ry .nil)))⟩
    | _ => exact h1.elim
end
end VM
set_option Elab.async false
set_option linter.all false
set_option maxRecDepth 100000
/-! VmZh: zip and enumerate over lists, tuples, ranges. -/
namespace VM
open PySem PySem.Spec L2
section
open Builtin.SmallTypes PySem.Calls
variable {prog : Program} {w : World} {A : Around} {E : Value → Shared → Prop} {s : Shared}
theorem nextOf_range_item {it : Addr} {x left step : Int} {Q : Value → Shared → Prop} (hit : IsRangeIter s.heap it x left step) (hleft : 0 < left)
    (hQ : ∀ h', IsRangeIter h' it (x + step) (left - 1) step → Heap.SameBut it s.heap h' → Q (.int x s.toks) { s with heap := h', toks := s.toks + 1 }) :
    wpAny (model prog w) A (nextOf (.ref it)) Q E s := by
  have hT : s.TypeIs (.ref it) "range_iterator" := ⟨_, hit, rfl⟩
  unfold nextOf
  refine wpAny_bind (wpAny_callSpecial?_slot (name := Str.ofString "__next__") hT F.slot_range_iterator_next
    (call_meets F.slot_range_iterator_next hT F.entry_range_iterator_next (F.args_range_iterator_next_1 _) (AutoRange.range_iterator___next___range_iterator_1 it x left step (by omega)) ⟨hit, ?_⟩))
  exact wpAny_pure (hQ _ (Heap.get?_update_self _ (Heap.get?_update_self _ hit rfl) rfl) ((Heap.SameBut.update ..).trans (Heap.SameBut.update ..)))
theorem nextOf_range_end {it : Addr} {x left step : Int} {Q : Value → Shared → Prop} (hh : A.handled = none) (hit : IsRangeIter s.heap it x left step) (hleft : left ≤ 0)
    (hE : ∀ h' e, Heap.ExtBut it s.heap h' → (∃ o, h'.get? e = some o ∧ o.cls = .type "StopIteration") → E (.ref e) { s with heap := h' }) : wpAny (model prog w) A (nextOf (.ref it)) Q E s := by
  have hT : s.TypeIs (.ref it) "range_iterator" := ⟨_, hit, rfl⟩
  unfold nextOf
  refine wpAny_bind (wpAny_callSpecial?_slot (name := Str.ofString "__next__") hT F.slot_range_iterator_next
    (wpAny_call_entry F.slot_range_iterator_next hT F.entry_range_iterator_next ?_ (F.args_range_iterator_next_1 _)))
  show wpAny _ _ (field (.ref it) 0 >>= _) _ _ s
  refine wpAny_bind (wpAny_field hit rfl (x := rawInt x) rfl ?_)
  show wpAny _ _ (field (.ref it) 1 >>= _) _ _ s
  refine wpAny_bind (wpAny_field hit rfl (x := rawInt left) rfl ?_)
  show wpAny _ _ (field (.ref it) 2 >>= _) _ _ s
  refine wpAny_bind (wpAny_field hit rfl (x := rawInt step) rfl ?_)
  show wpAny _ _ (if left ≤ 0 then _ else _) _ _ s
  rw [if_pos hleft]
  refine wpAny_bind (wpAny_rule ?_)
  refine wpAny_bind ?_
  show wpAny _ _ (newExc (.type "StopIteration") [] >>= _) _ _ _
  refine wpAny_bind ?_
  simp only [newExc, newTuple]
  refine wpAny_bind (wpAny_newObj_type ?_ (by size_fits))
  refine wpAny_bind (m := firstArgMember _ _) (wpAny_of_eq (a := Value.none) (by first | rfl | (simp only [firstArgMember]; rfl)) ?_)
  refine wpAny_newObj_type ?_ (by size_fits)
  simp only [raiseNew]
  refine wpAny_bind (wpAny_handled ?_)
  first | rw [show A.in1.handled = none from hh] | rw [hh]
  refine wpAny_bind (wpAny_pure (wpAny_throw ?_))
  exact hE _ _ (((Heap.ExtBut.refl it s.heap).push _).push _) ⟨_, Heap.get?_push_size _ rfl, rfl⟩
theorem draws_range (hh : A.handled = none) (it : Addr) (lo : Int) (n : Nat) : Draws prog w A it [it] n (fun i v => ∃ t, v = .int (lo + (i : Nat)) t) (fun i h => IsRangeIter h it (lo + (i : Nat)) ((n : Int) - (i : Nat)) 1) where
  live := fun _ _ st => ⟨_, st⟩
  frame := fun _ _ _ st hk => hk it (by simp) _ st
  item := fun i s Q E hi st hQ => nextOf_range_item st (by omega) fun h' st' hs => hQ _ _ _ ⟨_, rfl⟩ (by
    have e1 : lo + ((i + 1 : Nat) : Int) = lo + (i : Nat) + 1 := by omega
    have e2 : (n : Int) - ((i + 1 : Nat) : Int) = (n : Int) - (i : Nat) - 1 := by omega
    rw [e1, e2]
    exact st') hs
  done := fun s Q E st hE => nextOf_range_end hh st (by omega) hE
end
/-- what is walked within -/
inductive Kd where
  | L (a : Addr) (xs : List V) | T (a : Addr) (xs : List V) | R (lo : Int) (n : Nat)
def Kd.ok (K : PySem.W.Frag) (H : Hp) : Kd → Prop
  | .L a xs => SqL K H a xs
  | .T a xs => SqT K H a xs
  | .R _ _ => True
def Kd.vs : Kd → List V
  | .L _ xs => xs
  | .T _ xs => xs
  | .R lo n => (List.range n).map fun i => V.int (lo + (i : Nat))
def Kd.fp : Kd → List Addr
  | .L a _ => [a]
  | .T a _ => [a]
  | .R _ _ => []
def Kd.at (it : Addr) (i : Nat) (h : Heap) : Kd → Prop
  | .L a _ => h.IsListIter it a i
  | .T a _ => h.IsTupleIter it a i
  | .R lo n => IsRangeIter h it (lo + (i : Nat)) ((n : Int) - (i : Nat)) 1
def Kd.ob : Kd → Obj
  | .L a _ => { cls := .type "list_iterator", data := .fields #[.ref a, .int 0 0] }
  | .T a _ => { cls := .type "tuple_iterator", data := .fields #[.ref a, .int 0 0] }
  | .R lo n => { cls := .type "range_iterator", data := .fields #[rawInt lo, rawInt n, rawInt 1] }
theorem Kd.at_keep {kd : Kd} {it : Addr} {i : Nat} {h h' : Heap} (st : kd.at it i h) (k : ∀ o, h.get? it = some o → h'.get? it = some o) : kd.at it i h' := by
  cases kd with
  | L a xs => exact Heap.IsListIter.at st k
  | T a xs => exact Heap.IsTupleIter.at st k
  | R lo n => exact k _ st
theorem Kd.at_obj {kd : Kd} {it : Addr} {i : Nat} {h : Heap} (st : kd.at it i h) : ∃ o, h.get? it = some o ∧ ∀ v, o.data ≠ .cell v := by
  cases kd with
  | L a xs => obtain ⟨o, e, _, d⟩ := (show h.IsListIter it a i from st); exact ⟨o, e, fun v q => by rw [d] at q; cases q⟩
  | T a xs => obtain ⟨o, e, _, d⟩ := (show h.IsTupleIter it a i from st); exact ⟨o, e, fun v q => by rw [d] at q; cases q⟩
  | R lo n => exact ⟨_, (show IsRangeIter h it _ _ _ from st), fun v q => nomatch q⟩
theorem Kd.at0 {kd : Kd} {it : Addr} {h : Heap} (e : h.get? it = some kd.ob) : kd.at it 0 h := by
  cases kd with
  | L a xs => exact ⟨_, e, rfl, rfl⟩
  | T a xs => exact ⟨_, e, rfl, rfl⟩
  | R lo n =>
    have e1 : lo + ((0 : Nat) : Int) = lo := by omega
    have e2 : (n : Int) - ((0 : Nat) : Int) = n := by omega
    show IsRangeIter h it _ _ _
    rw [e1, e2]
    exact e
/-- what its iterator draws, here -/
theorem Kd.draws {X : Cx} {pins : List (Addr × Obj)} {σ : L2.St} {H : Hp} {s : Shared} {kd : Kd} {it : Addr} {i : Nat} {A : Around} (I : L2.Inv X pins σ H s) (ok : kd.ok X.K H) (st : kd.at it i s.heap) (hne : it ∉ kd.fp) (hh : A.handled = none) :
    ∃ (P : Nat → Value → Prop) (St : Nat → Heap → Prop), Draws X.prog X.w A it (it :: kd.fp) kd.vs.length P St ∧ St i s.heap ∧ (∀ j h, St j h → kd.at it j h) ∧ ∀ j u, P j u → ∀ hj : j < kd.vs.length, ∃ x, kd.vs[j]? = some x ∧ L2.RelV x u := by
  cases kd with
  | L a xs =>
    obtain ⟨its, rv, p, hz⟩ := I.list ok
    have ne : a ≠ it := fun z => hne (by rw [z]; exact List.mem_singleton.mpr rfl)
    have D := Draws.list (prog := X.prog) (w := X.w) hh it a ne its.toArray
    have e : its.toArray.size = xs.length := by rw [List.size_toArray, ← rv.length]
    rw [e] at D
    refine ⟨_, _, D, ⟨st, p.isList⟩, fun j h q => q.1, fun j u hu hj => ?_⟩
    have hj : j < xs.length := hj
    have hu : its[j]? = some u := by simpa using hu
    obtain ⟨u', h1, h2⟩ := rv.get (List.getElem?_eq_getElem hj)
    rw [hu] at h1
    cases h1
    exact ⟨xs[j], List.getElem?_eq_getElem hj, h2⟩
  | T a xs =>
    obtain ⟨its, rv, p, hz⟩ := I.tuple ok
    have ne : a ≠ it := fun z => hne (by rw [z]; exact List.mem_singleton.mpr rfl)
    have D := Draws.tuple (prog := X.prog) (w := X.w) hh it a ne its.toArray
    have e : its.toArray.size = xs.length := by rw [List.size_toArray, ← rv.length]
    rw [e] at D
    refine ⟨_, _, D, ⟨st, p⟩, fun j h q => q.1, fun j u hu hj => ?_⟩
    have hj : j < xs.length := hj
    have hu : its[j]? = some u := by simpa using hu
    obtain ⟨u', h1, h2⟩ := rv.get (List.getElem?_eq_getElem hj)
    rw [hu] at h1
    cases h1
    exact ⟨xs[j], List.getElem?_eq_getElem hj, h2⟩
  | R lo n =>
    have D := draws_range (prog := X.prog) (w := X.w) hh it lo n
    have e : (Kd.R lo n).vs.length = n := by unfold Kd.vs; rw [List.length_map, List.length_range]
    rw [e]
    refine ⟨_, _, D, st, fun j h q => q, fun j u hu hj => ?_⟩
    obtain ⟨t, rfl⟩ := hu
    refine ⟨.int (lo + (j : Nat)), ?_, ⟨t, rfl⟩⟩
    unfold Kd.vs
    rw [List.getElem?_map, List.getElem?_range hj]
    rfl
end VM
set_option Elab.async false
set_option linter.all false
set_option maxRecDepth 100000
/-! VmZi: zip, enumerate: the turns. -/
namespace VM
open PySem PySem.Spec L2
def ItZ (K : PySem.W.Frag) (k1 k2 : Kd) : It :=
  ⟨fun i H => k1.ok K H ∧ k2.ok K H ∧ i < k1.vs.length ∧ i < k2.vs.length,
    fun i H v H' => ∃ T x y, v = .ref T ∧ H T = none ∧ H' = upd H T (.tup [x, y]) ∧ k1.vs[i]? = some x ∧ k2.vs[i]? = some y,
    fun i H => k1.ok K H ∧ k2.ok K H ∧ i ≤ k1.vs.length ∧ i ≤ k2.vs.length ∧ (i = k1.vs.length ∨ i = k2.vs.length)⟩
theorem turn_Z {P : Program} {w : World} {K : PySem.W.Frag} {elts : List Expr} {kk : Nat} {tpos : Pos} {k1 k2 : Kd} {z TI TO i1 i2 : Addr} (D : ZipSep2 z TI TO i1 i2 (i1 :: k1.fp) (i2 :: k2.fp)) (q1 : i1 ∉ k1.fp) (q2 : i2 ∉ k2.fp) :
    Turn P w K (.Tuple elts kk tpos) (ItZ K k1 k2) [z, TI, TO, i1, i2] z (fun i h => IsZip h z TI TO .none ∧ IsTupOf2 h TI (.ref i1) (.ref i2) ∧ (∃ x y, IsTupOf2 h TO x y) ∧ k1.at i1 i h ∧ k2.at i2 i h) where
  mem := by simp
  obj := fun i h st c hc => by
    obtain ⟨hz, hTI, ⟨x, y, hTO⟩, h1, h2⟩ := st
    have e' : c = z ∨ c = TI ∨ c = TO ∨ c = i1 ∨ c = i2 := by simpa using hc
    rcases e' with q | q | q | q | q
    · rw [q]; exact ⟨_, hz, fun v q => nomatch q⟩
    · rw [q]; exact ⟨_, hTI, fun v q => nomatch q⟩
    · rw [q]; exact ⟨_, hTO, fun v q => nomatch q⟩
    · rw [q]; exact (Kd.at_obj h1)
    · rw [q]; exact (Kd.at_obj h2)
  keep := fun i h h' st k => by
    obtain ⟨hz, hTI, ⟨x, y, hTO⟩, h1, h2⟩ := st
    exact ⟨k z (by simp) _ hz, k TI (by simp) _ hTI, ⟨x, y, k TO (by simp) _ hTO⟩, Kd.at_keep h1 fun o q => k i1 (by simp) o q, Kd.at_keep h2 fun o q => k i2 (by simp) o q⟩
  item := by
    intro X hP hw hK hc i pins s σ H E I hf st hg
    subst hP hw hK
    obtain ⟨hz, hTI, ⟨x0, y0, hTO⟩, h1, h2⟩ := st
    obtain ⟨o1, o2, l1, l2⟩ := hg
    have hzl : z < s.heap.objs.size := Heap.lt_size hz
    obtain ⟨P1, St1, D1, st1, f1, g1⟩ := k1.draws (A := X.A.in1) I o1 h1 q1 (I.ok.hd hc)
    obtain ⟨P2, St2, D2, st2, f2, g2⟩ := k2.draws (A := X.A.in1) I o2 h2 q2 (I.ok.hd hc)
    refine wpAny_pyNext_zipD2_item D D1 D2 hz hTI hTO st1 st2 l1 l2 fun x1 x2 h' tk y1 y2 z' TO' h1' h2' hT hsz hk => ?_
    refine ⟨_, rfl, wpAny_letOwnedTupleGo_zip (s := { s with heap := h', toks := tk }) z' fun h'' z'' sb => ?_⟩
    obtain ⟨x, ex, rx⟩ := g1 i x1 y1 l1
    obtain ⟨y, ey, ry⟩ := g2 i x2 y2 l2
    have hT2 : h''.get? s.heap.objs.size = some { cls := .type "tuple", data := .seq #[x1, x2] } := (sb.2 _ (Nat.ne_of_gt hzl)).trans hT
    have new : ObjOk X.prog X.w (upd H s.heap.objs.size (.tup [x, y])) h'' s.heap.objs.size (.tup [x, y]) :=
      ⟨by show 2 ≤ sizeLine; decide, [x1, x2], .cons rx (.cons ry .nil), ⟨_, hT2, rfl, _, rfl⟩⟩
    have I1 : L2.Inv X pins σ (upd H s.heap.objs.size (.tup [x, y])) { s with heap := h'', toks := tk } :=
      I.turnedNew (t' := tk) (ch := [z, TI, TO, i1, i2]) (fun c o hb q => (sb.2 c (fun q' => hb (by simp [q']))).trans (hk c o (fun q' => hb (by simp [q'])) (fun q' => hb (by simp [q'])) (fun q' => hb (by simp [q'])) (fun q' => hb (by simp [q'])) q)) hf (Nat.le_refl _) new
    refine ⟨.ref s.heap.objs.size, _, I1, rfl, ⟨_, x, y, rfl, I.hok.fresh (Nat.le_refl _), rfl, ex, ey⟩, ⟨z'', ?_, ⟨x1, x2, ?_⟩, ?_, ?_⟩, fun c hcm => ?_⟩
    · exact (sb.2 _ D.TIz).trans (hk _ _ D.TIz D.TITO D.TIi1 D.TIi2 hTI)
    · exact (sb.2 _ D.TOz).trans TO'
    · exact Kd.at_keep (f1 _ _ h1') fun o q => (sb.2 _ D.zi1.symm).trans q
    · exact Kd.at_keep (f2 _ _ h2') fun o q => (sb.2 _ D.zi2.symm).trans q
    · have hlt : c < s.heap.objs.size := by
        have e' : c = z ∨ c = TI ∨ c = TO ∨ c = i1 ∨ c = i2 := by simpa using hcm
        rcases e' with q | q | q | q | q
        · rw [q]; exact hzl
        · rw [q]; exact Heap.lt_size hTI
        · rw [q]; exact Heap.lt_size hTO
        · rw [q]; obtain ⟨_, e1, _⟩ := (Kd.at_obj h1); exact Heap.lt_size e1
        · rw [q]; obtain ⟨_, e2, _⟩ := (Kd.at_obj h2); exact Heap.lt_size e2
      rw [upd_ne (Nat.ne_of_lt hlt)]
      exact (hf c hcm).1
  done := by
    intro X hP hw hK hc i pins s σ H E I hf st hg
    subst hP hw hK
    obtain ⟨hz, hTI, ⟨x0, y0, hTO⟩, h1, h2⟩ := st
    obtain ⟨o1, o2, l1, l2, hend⟩ := hg
    obtain ⟨P1, St1, D1, st1, f1, g1⟩ := k1.draws (A := X.A.in1) I o1 h1 q1 (I.ok.hd hc)
    obtain ⟨P2, St2, D2, st2, f2, g2⟩ := k2.draws (A := X.A.in1) I o2 h2 q2 (I.ok.hd hc)
    exact wpAny_pyNext_zipD2_end D D1 D2 hz hTI hTO st1 st2 l1 l2 hend fun h' tk hk => ⟨rfl, I.turnedL (t' := tk) (ch := [z, TI, TO, i1, i2]) (fun c o hb q =>
      hk c o (fun q' => hb (by simp [q'])) (fun q' => hb (by simp [q'])) (fun q' => hb (by simp [q'])) (fun q' => hb (by simp [q'])) q) hf⟩
  self := fun A i s Q E st h => wpAny_pyIter_zip st.1 h
/-! ### enumerate -/
def ItN (K : PySem.W.Frag) (k : Kd) (c : Int) : It :=
  ⟨fun i H => k.ok K H ∧ i < k.vs.length,
    fun i H v H' => ∃ T x, v = .ref T ∧ H T = none ∧ H' = upd H T (.tup [.int (c + (i : Nat)), x]) ∧ k.vs[i]? = some x,
    fun i H => k.ok K H ∧ i = k.vs.length⟩
theorem turn_N {P : Program} {w : World} {K : PySem.W.Frag} {elts : List Expr} {kk : Nat} {tpos : Pos} {k : Kd} {c : Int} {e it : Addr} (hne : e ≠ it) (hef : e ∉ k.fp) (hif : it ∉ k.fp) :
    Turn P w K (.Tuple elts kk tpos) (ItN K k c) [e, it] e (fun i h => (∃ old, IsEnum h e it (c + (i : Nat)) old) ∧ k.at it i h) where
  mem := by simp
  obj := fun i h st b hb => by
    obtain ⟨⟨old, he⟩, h1⟩ := st
    have e' : b = e ∨ b = it := by simpa using hb
    rcases e' with z | z
    · rw [z]; exact ⟨_, he, fun v q => nomatch q⟩
    · rw [z]; exact (Kd.at_obj h1)
  keep := fun i h h' st k => let ⟨⟨old, he⟩, hi⟩ := st; ⟨⟨old, k e (by simp) _ he⟩, Kd.at_keep hi fun o q => k it (by simp) o q⟩
  item := by
    intro X hP hw hK hc i pins s σ H E I hf st hg
    subst hP hw hK
    obtain ⟨⟨old, he⟩, hit⟩ := st
    obtain ⟨ok, hl⟩ := hg
    have hel : e < s.heap.objs.size := Heap.lt_size he
    have hil : it < s.heap.objs.size := by obtain ⟨_, q, _⟩ := (Kd.at_obj hit); exact Heap.lt_size q
    obtain ⟨P1, St1, D1, st1, f1, g1⟩ := k.draws (A := X.A.in1) I ok hit hif (I.ok.hd hc)
    have hef' : e ∉ it :: k.fp := fun q => by
      rcases List.mem_cons.mp q with q | q
      · exact hne q
      · exact hef q
    refine wpAny_pyNext_enum_itemC D1 he st1 hl hne hef' fun x h' tk hP ho hs' hT hsz hk => ?_
    refine ⟨_, rfl, wpAny_letOwnedTupleGo_enum (s := { s with heap := h', toks := tk + 1 }) ho fun h'' he' sb => ?_⟩
    obtain ⟨xv, ex, rx⟩ := g1 i x hP hl
    have hT2 : h''.get? s.heap.objs.size = some { cls := .type "tuple", data := .seq #[.int (c + (i : Nat)) tk, x] } := (sb.2 _ (Nat.ne_of_gt hel)).trans hT
    have new : ObjOk X.prog X.w (upd H s.heap.objs.size (.tup [.int (c + (i : Nat)), xv])) h'' s.heap.objs.size (.tup [.int (c + (i : Nat)), xv]) :=
      ⟨by show 2 ≤ sizeLine; decide, [.int (c + (i : Nat)) tk, x], .cons ⟨_, rfl⟩ (.cons rx .nil), ⟨_, hT2, rfl, _, rfl⟩⟩
    have I1 : L2.Inv X pins σ (upd H s.heap.objs.size (.tup [.int (c + (i : Nat)), xv])) { s with heap := h'', toks := tk + 1 } :=
      I.turnedNew (ch := [e, it]) (fun b o hb q => (sb.2 b (fun z => hb (by simp [z]))).trans (hk b o (fun z => hb (by simp [z])) (fun z => hb (by simp [z])) q)) hf (Nat.le_refl _) new
    refine ⟨.ref s.heap.objs.size, _, I1, rfl, ⟨_, xv, rfl, I.hok.fresh (Nat.le_refl _), rfl, ex⟩, ⟨⟨x, ?_⟩, Kd.at_keep (f1 _ _ hs') fun o q => (sb.2 it (Ne.symm hne)).trans q⟩, fun b hb => ?_⟩
    · have e1 : c + ((i + 1 : Nat) : Int) = c + (i : Nat) + 1 := by omega
      rw [e1]; exact he'
    · have hb' : b < s.heap.objs.size := by
        have e' : b = e ∨ b = it := by simpa using hb
        rcases e' with z | z
        · rw [z]; exact hel
        · rw [z]; exact hil
      rw [upd_ne (Nat.ne_of_lt hb')]
      exact (hf b hb).1
  done := by
    intro X hP hw hK hc i pins s σ H E I hf st hg
    subst hP hw hK
    obtain ⟨⟨old, he⟩, hit⟩ := st
    obtain ⟨ok, hl⟩ := hg
    subst hl
    obtain ⟨f0, f1, f2, f3, f4, f5⟩ := hf it (by simp)
    obtain ⟨P1, St1, D1, st1, g0, g1⟩ := k.draws (A := X.A.in1) I ok hit hif (I.ok.hd hc)
    exact wpAny_pyNext_enum_endD D1 he st1 fun h' eb => ⟨rfl, I.turned (t' := s.toks) (fun b o hb q => eb b o hb q) f0 f1 f3 f4 f5⟩
  self := fun A i s Q E st h => let ⟨⟨_, he⟩, _⟩ := st; wpAny_pyIter_enum he h
end VM
set_option Elab.async false
set_option linter.all false
set_option maxRecDepth 100000
/-! VmZj: zip and enumerate as sources. -/
namespace VM
open PySem PySem.Spec L2
section
variable {X : Cx} {pins : List (Addr × Obj)} {σ : L2.St} {H : Hp} {s : Shared}
/-- a list or a tuple that is handed to zip, enumerate -/
def KdV (a : Addr) (kd : Kd) : Prop := (∃ xs, kd = .L a xs) ∨ ∃ xs, kd = .T a xs
theorem kd_begins {a : Addr} {kd : Kd} (I : L2.Inv X pins σ H s) (ok : kd.ok X.K H) (h : KdV a kd) : ∃ Hq, Begins (.ref a) kd.ob Hq ∧ Hq s.heap ∧ ∀ b ∈ kd.fp, b < s.heap.objs.size := by
  rcases h with ⟨xs, rfl⟩ | ⟨xs, rfl⟩
  · obtain ⟨its, rv, p, hz⟩ := I.list ok
    exact ⟨_, begins_list a its.toArray, p.isList, fun b hb => by rw [List.mem_singleton.mp hb]; exact p.lt⟩
  · obtain ⟨its, rv, p, hz⟩ := I.tuple ok
    refine ⟨_, begins_tuple a its.toArray, p, fun b hb => ?_⟩
    obtain ⟨o, ho, _⟩ := id p
    rw [List.mem_singleton.mp hb]
    exact Heap.lt_size ho
theorem begins_range {r : Addr} {lo hi : Int} {t u v : Tok} (hs : Builtin.Range.small lo hi 1 = true) : Begins (.ref r) (Kd.R lo (hi - lo).toNat).ob (fun h => IsRange h r lo hi 1 t u v) where
  iter := fun prog w A E s Q hr h => by
    refine wpAny_pyIter_range hr hs ?_
    have e : Builtin.Range.rangeSize lo hi 1 = ((hi - lo).toNat : Nat) := by rw [rangeSize_one]; split <;> omega
    rw [e]
    exact h
  keeps := fun h h' x hk => hk _ _ x
  free := rfl
variable {tg : Expr} {elts : List Expr} {kk : Nat} {tpos : Pos}
theorem zip_it {k1 k2 : Kd} {v1 v2 : Value} {H1 H2 : Heap → Prop} {R : It → Hp → Prop} {E : Value → Shared → Prop} (I : L2.Inv X pins σ H s) (B1 : Begins v1 k1.ob H1) (B2 : Begins v2 k2.ob H2) (h1 : H1 s.heap) (h2 : H2 s.heap) (f1 : ∀ b ∈ k1.fp, b < s.heap.objs.size) (f2 : ∀ b ∈ k2.fp, b < s.heap.objs.size)
    (q : R (ItZ X.K k1 k2) H) : wpAny (model X.prog X.w) X.A (call (.type "zip") [v1, v2]) (fun v s1 => wpAny (model X.prog X.w) X.A (pyIter v) (PIE X pins σ (.Tuple elts kk tpos) R) E s1) E s := by
  refine zip_begins2 B1 B2 h1 h2 fun h' hz hTI hTO e1 e2 hsz hk => wpAny_pyIter_zip hz ?_
  have I2 : L2.Inv X pins σ H { s with heap := h' } := I.kept (t' := s.toks) hk
  refine ⟨s.heap.objs.size + 4, [s.heap.objs.size + 4, s.heap.objs.size + 2, s.heap.objs.size + 3, s.heap.objs.size, s.heap.objs.size + 1], _, _, H, rfl, I2, turn_Z (zip_sep2 f1 f2) (fun z => absurd (f1 _ z) (Nat.lt_irrefl _)) (fun z => absurd (f2 _ z) (Nat.not_lt.mpr (Nat.le_succ _))), ⟨hz, hTI, ⟨_, _, hTO⟩, Kd.at0 e1, Kd.at0 e2⟩, fun c hcm => ?_, q⟩
  have e' : c = s.heap.objs.size + 4 ∨ c = s.heap.objs.size + 2 ∨ c = s.heap.objs.size + 3 ∨ c = s.heap.objs.size ∨ c = s.heap.objs.size + 1 := by simpa using hcm
  have hle : s.heap.objs.size ≤ c := by
    rcases e' with z | z | z | z | z
    · rw [z]; exact Nat.le_add_right _ _
    · rw [z]; exact Nat.le_add_right _ _
    · rw [z]; exact Nat.le_add_right _ _
    · rw [z]; exact Nat.le_refl _
    · rw [z]; exact Nat.le_add_right _ _
  exact I.fpOk hle (I.hok.fresh hle)
variable {e e2 : Expr} {p p2 pos pos2 : Pos} {ta : TA} {te : TE}
def iZipV (K : PySem.W.Frag) (ta : TA) : TI := fun σ H R => ta σ H fun vs H2 => ∃ a b k1 k2, vs = [V.ref a, V.ref b] ∧ KdV a k1 ∧ KdV b k2 ∧ k1.ok K H2 ∧ k2.ok K H2 ∧ R (ItZ K k1 k2) H2
theorem pi_zipV (hg : Gl X "zip") (hm : X.mg "zip" = none) (ha : PA X [e, e2] ta) (n1 : ∀ y q, e ≠ .Starred y q) (n2 : ∀ y q, e2 ≠ .Starred y q) : PI X (.Tuple elts kk tpos) (.Call (.Name "zip" p) [e, e2] [] pos) (iZipV X.K ta) := by
  refine ⟨fun pins s σ H R I h => ?_⟩
  refine PyProof.Rows.Call_ (ld_blt I hg hm PyProof.Rows.boot_zip (PyProof.Rows.callWith_type1 (thn (ha.run pos pins s σ H _ I h) fun us s1 ⟨vs, H1, I1, r1, q1⟩ => ?_) (starEach_cons n1) (by rw [starEach_cons n2]; rfl)))
  obtain ⟨a, b, k1, k2, rfl, v1, v2, o1, o2, q⟩ := q1
  obtain ⟨u1, u2, rfl, rr1, rr2⟩ := vals2 r1
  cases rr1
  cases rr2
  obtain ⟨Q1, B1, b1, f1⟩ := kd_begins I1 o1 v1
  obtain ⟨Q2, B2, b2, f2⟩ := kd_begins I1 o2 v2
  exact zip_it I1 B1 B2 b1 b2 f1 f2 q
/-- zip(x, range(..)) -/
def iZipR (K : PySem.W.Frag) (te : TE) (tr : L2.St → Hp → (Int → Int → Hp → Prop) → Prop) : TI := fun σ H R => te σ H fun x H1 => tr σ H1 fun lo hi H2 => ∃ a k1, x = V.ref a ∧ KdV a k1 ∧ k1.ok K H2 ∧ -(2 ^ 62) ≤ lo ∧ lo < 2 ^ 62 ∧ -(2 ^ 62) ≤ hi ∧ hi < 2 ^ 62 ∧ R (ItZ K k1 (.R lo (hi - lo).toNat)) H2
theorem pi_zipR {tr : L2.St → Hp → (Int → Int → Hp → Prop) → Prop} (hg : Gl X "zip") (hm : X.mg "zip" = none) (he : PE X e te) (hr : PRg X e2 tr) (n1 : ∀ y q, e ≠ .Starred y q) (n2 : ∀ y q, e2 ≠ .Starred y q) : PI X (.Tuple elts kk tpos) (.Call (.Name "zip" p) [e, e2] [] pos) (iZipR X.K te tr) := by
  refine ⟨fun pins s σ H R I h => ?_⟩
  refine PyProof.Rows.Call_ (ld_blt I hg hm PyProof.Rows.boot_zip (PyProof.Rows.callWith_type1 (PyProof.Rows.args_cons (thn (he.run pins s σ H _ I h) fun v s1 ⟨x, H1, I1, r1, q1⟩ => ?_) (starEach_cons n1)) (starEach_cons n1) (by rw [starEach_cons n2]; rfl)))
  refine PyProof.Rows.args_cons (thn (hr pins s1 σ H1 _ I1 q1) fun y s2 ⟨r, lo, hi, t, u, v', H2, ey, hrg, I2, q2⟩ => PyProof.Rows.args_nil ?_) (starEach_cons n2)
  subst ey
  obtain ⟨a, k1, rfl, v1, o1, b1, b2, b3, b4, q⟩ := q2
  cases r1
  obtain ⟨Q1, B1, c1, f1⟩ := kd_begins I2 o1 v1
  exact zip_it I2 B1 (begins_range (small_one b1 b2 b3 b4)) c1 hrg f1 (fun b hb => absurd hb (by simp [Kd.fp])) q
/-- enumerate(x) -/
def iEnumV (K : PySem.W.Frag) (ta : TA) : TI := fun σ H R => ta σ H fun vs H2 => ∃ a kd, vs = [V.ref a] ∧ KdV a kd ∧ kd.ok K H2 ∧ R (ItN K kd 0) H2
end
set_option maxHeartbeats 1000000 in
theorem meets_enum1 {v : Value} {o : Obj} {H : Heap → Prop} (B : Begins v o H) :
    Meets (Builtin.«enumerate.__new__» ⟨[.type "enumerate", v], []⟩) (fun _ R s => H s.heap ∧
      R (.ok (.ret (.ref (s.heap.push o).objs.size))) { s with heap := (s.heap.push o).push { cls := .type "enumerate", data := .fields #[.none, .bool false, .ref s.heap.objs.size, rawInt 0, .none, .none] } }) :=
  .of_wp fun prog w A R s h => by
    obtain ⟨hp, g, d, tk, os⟩ := s; obtain ⟨h1, h⟩ := h
    have hsub := sub_enumerate
    have q1 : ∀ {A' : Around} {E : Value → Shared → Prop} {Q : Value → Shared → Prop}, Q (.ref hp.objs.size) ⟨hp.push o, g, d, tk, os⟩ → wpAny (model prog w) A' (pyIter v) Q E ⟨hp, g, d, tk, os⟩ :=
      fun q => B.iter prog w _ _ ⟨hp, g, d, tk, os⟩ _ h1 q
    wp_walk using q1
    refine wpAny_stack_any fun st => wpAny_pure ?_
    split
    · rename_i c _ _ _ _ _
      cases (c == Value.type "enumerate")
      · wp_walk using q1
        exact ⟨_, rfl, h⟩
      · wp_walk using q1
        exact ⟨_, rfl, h⟩
    · wp_walk using q1
      exact ⟨_, rfl, h⟩
section
variable {prog : Program} {w : World} {A : Around} {E : Value → Shared → Prop} {s : Shared}
open PySem.Calls in
theorem enum_begins1 {v : Value} {o : Obj} {H : Heap → Prop} {Q : Value → Shared → Prop} (B : Begins v o H) (h1 : H s.heap)
    (h : ∀ h', IsEnum h' (s.heap.objs.size + 1) s.heap.objs.size 0 .none → h'.get? s.heap.objs.size = some o → h'.objs.size = s.heap.objs.size + 2 →
      (∀ b o, s.heap.get? b = some o → h'.get? b = some o) → Q (.ref (s.heap.objs.size + 1)) { s with heap := h' }) :
    wpAny (model prog w) A (call (.type "enumerate") [v]) Q E s := by
  refine callType_new F.called_enumerate (by decide) (F.typeCall_enumerate_1 _) (F.newCall_enumerate_1 _) (fun obj => F.args_object_init_2 obj _) F.entry_enumerate_new
    (meets_enum1 B) ⟨h1, ?_⟩
  have hz : (s.heap.push o).objs.size = s.heap.objs.size + 1 := Heap.size_push ..
  show _ ∧ _
  rw [hz]
  have he : IsEnum ((s.heap.push o).push { cls := .type "enumerate", data := .fields #[.none, .bool false, .ref s.heap.objs.size, rawInt 0, .none, .none] }) (s.heap.objs.size + 1) s.heap.objs.size 0 .none := by
    have := Heap.get?_push_size (s.heap.push o) (o := { cls := .type "enumerate", data := .fields #[.none, .bool false, .ref s.heap.objs.size, rawInt 0, .none, .none] }) rfl
    rw [hz] at this; exact this
  refine ⟨⟨_, he, rfl⟩, h _ he (Heap.get?_push_of_some _ (Heap.get?_push_size _ B.free)) (by rw [Heap.size_push, hz]) fun b o x => Heap.get?_push_of_some _ (Heap.get?_push_of_some _ x)⟩
end
section
variable {X : Cx} {elts : List Expr} {kk : Nat} {tpos : Pos} {e : Expr} {p pos : Pos} {ta : TA}
theorem pi_enumV (hg : Gl X "enumerate") (hm : X.mg "enumerate" = none) (ha : PA X [e] ta) (n1 : ∀ y q, e ≠ .Starred y q) : PI X (.Tuple elts kk tpos) (.Call (.Name "enumerate" p) [e] [] pos) (iEnumV X.K ta) := by
  refine ⟨fun pins s σ H R I h => ?_⟩
  refine PyProof.Rows.Call_ (ld_blt I hg hm PyProof.Rows.boot_enumerate (PyProof.Rows.callWith_type1 (thn (ha.run pos pins s σ H _ I h) fun us s1 ⟨vs, H1, I1, r1, q1⟩ => ?_) (starEach_cons n1) rfl))
  obtain ⟨a, kd, rfl, v1, o1, q⟩ := q1
  obtain ⟨u1, rfl, rr1⟩ := vals1 r1
  cases rr1
  obtain ⟨Q1, B1, b1, f1⟩ := kd_begins I1 o1 v1
  refine enum_begins1 B1 b1 fun h' he e1 hsz hk => wpAny_pyIter_enum he ?_
  have I2 : L2.Inv X pins σ H1 { s1 with heap := h' } := I1.kept (t' := s1.toks) hk
  have e0 : (0 : Int) + ((0 : Nat) : Int) = 0 := rfl
  refine ⟨s1.heap.objs.size + 1, [s1.heap.objs.size + 1, s1.heap.objs.size], _, _, H1, rfl, I2, turn_N (k := kd) (c := 0) (Nat.succ_ne_self _) (fun z => absurd (f1 _ z) (Nat.not_lt.mpr (Nat.le_succ _))) (fun z => absurd (f1 _ z) (Nat.lt_irrefl _)), ⟨⟨.none, he⟩, Kd.at0 e1⟩, fun b hb => ?_, q⟩
  have e' : b = s1.heap.objs.size + 1 ∨ b = s1.heap.objs.size := by simpa using hb
  have hle : s1.heap.objs.size ≤ b := by
    rcases e' with z | z
    · rw [z]; exact Nat.le_add_right _ _
    · rw [z]; exact Nat.le_refl _
  exact I1.fpOk hle (I1.hok.fresh hle)
end
/-! ### the readings -/
section
variable {Z : Zed} {Wx : Value → Option Addr → Hp → Prop} {G0 E0 : Hp} {X : Cx} {elts : List Expr} {kk : Nat} {tpos : Pos} {e e2 : Expr} {p p2 pos pos2 : Pos} {f g h : En → Dw → Res RV}
/-- data that is walked within -/
structure KdD (Z : Zed) (G : Hp) (v : V) (kd : Kd) (ds : List D) : Prop where
  v : ∃ a, v = .ref a ∧ KdV a kd
  ok : ∀ G2 H w, Sub G G2 → Gg Z G2 H w → kd.ok Z.K H
  r : RpL Z G kd.vs ds
theorem kdD_of {G : Hp} {v : V} {d : D} {k : Bool} {ds : List D} (r : Rp Z G v d) (e : (RV.v d).seq = some (k, ds)) : ∃ kd, KdD Z G v kd ds := by
  cases d with
  | tup es =>
    cases e
    cases r with
    | @tup a xs _ h1 h2 => exact ⟨.T a xs, ⟨a, rfl, .inr ⟨xs, rfl⟩⟩, fun G2 H w s g => g.sqT (SqT.sub s h1), h2⟩
  | lst es =>
    cases e
    cases r with
    | @lst a xs _ h1 h2 => exact ⟨.L a xs, ⟨a, rfl, .inl ⟨xs, rfl⟩⟩, fun G2 H w s g => SqL.of (g.gok _ _ (s _ _ h1) rfl), h2⟩
  | _ => cases e
theorem KdD.sub {G G2 : Hp} {v : V} {kd : Kd} {ds : List D} (h : KdD Z G v kd ds) (s : Sub G G2) : KdD Z G2 v kd ds := ⟨h.v, fun G3 H w s2 g => h.ok G3 H w (fun b o z => s2 b o (s b o z)) g, RpL.sub s h.r⟩
theorem zipD_len (xs ys : List D) : (zipD xs ys).length = min xs.length ys.length := List.length_zipWith
theorem itok_Z {G : Hp} {k1 k2 : Kd} {ds es : List D} (o1 : ∀ G2 H w, Sub G G2 → Gg Z G2 H w → k1.ok Z.K H) (o2 : ∀ G2 H w, Sub G G2 → Gg Z G2 H w → k2.ok Z.K H) (r1 : RpL Z G k1.vs ds) (r2 : RpL Z G k2.vs es) : ItOk Z (ItZ Z.K k1 k2) G (zipD ds es) where
  go := fun i G2 H w s g hi => by
    rw [zipD_len, ← r1.length, ← r2.length] at hi
    exact ⟨o1 G2 H w s g, o2 G2 H w s g, by omega, by omega⟩
  stop := fun G2 H w s g => by
    rw [zipD_len, ← r1.length, ← r2.length]
    exact ⟨o1 G2 H w s g, o2 G2 H w s g, by omega, by omega, by omega⟩
  yld := fun i G2 H H' w x d s g hd hy => by
    obtain ⟨T, a, b, rfl, hT, rfl, h1, h2⟩ := hy
    unfold zipD at hd
    rw [List.getElem?_zipWith] at hd
    obtain ⟨da, e1, ra⟩ := r1.getV h1
    obtain ⟨db, e2, rb⟩ := r2.getV h2
    rw [e1, e2] at hd
    cases hd
    have gT := g.fresh hT
    have sT := sub_upd (o := HO.tup [a, b]) gT
    exact ⟨upd G2 T (.tup [a, b]), (Nx.alloc hT).freeze gT hT, (g.alloc hT).freeze upd_same gT (fun _ z => by cases z) rfl, .tup (SqT.of upd_same) (.cons (Rp.sub sT (Rp.sub s ra)) (.cons (Rp.sub sT (Rp.sub s rb)) .nil))⟩
theorem itok_N {G : Hp} {k1 : Kd} {ds : List D} {c : Int} (o1 : ∀ G2 H w, Sub G G2 → Gg Z G2 H w → k1.ok Z.K H) (r1 : RpL Z G k1.vs ds) : ItOk Z (ItN Z.K k1 c) G (enumD c ds) where
  go := fun i G2 H w s g hi => by
    unfold enumD at hi
    rw [List.length_map, List.length_zipIdx, ← r1.length] at hi
    exact ⟨o1 G2 H w s g, hi⟩
  stop := fun G2 H w s g => by
    unfold enumD
    rw [List.length_map, List.length_zipIdx, ← r1.length]
    exact ⟨o1 G2 H w s g, rfl⟩
  yld := fun i G2 H H' w x d s g hd hy => by
    obtain ⟨T, a, rfl, hT, rfl, h1⟩ := hy
    unfold enumD at hd
    rw [List.getElem?_map, List.getElem?_zipIdx] at hd
    obtain ⟨da, e1, ra⟩ := r1.getV h1
    rw [e1] at hd
    cases hd
    have gT := g.fresh hT
    have sT := sub_upd (o := HO.tup [.int (c + (i : Nat)), a]) gT
    refine ⟨upd G2 T (.tup [.int (c + (i : Nat)), a]), (Nx.alloc hT).freeze gT hT, (g.alloc hT).freeze upd_same gT (fun _ z => by cases z) rfl, .tup (SqT.of upd_same) (.cons ?_ (.cons (Rp.sub sT (Rp.sub s ra)) .nil))⟩
    have e9 : ((0 + i : Nat) : Int) = (i : Nat) := by omega
    show Rp Z _ _ (.int (c + ((0 + i : Nat) : Int)))
    rw [e9]
    exact .int _
theorem pi_zp (hK : X.K = Z.K) (hg : Gl X "zip") (hm : X.mg "zip" = none) (ha : PE X e (SE Z Wx G0 E0 f)) (hb : PE X e2 (SE Z Wx G0 E0 g)) (n1 : ∀ y q, e ≠ .Starred y q) (n2 : ∀ y q, e2 ≠ .Starred y q) :
    PI X (.Tuple elts kk tpos) (.Call (.Name "zip" p) [e, e2] [] pos) (SI Z Wx G0 E0 fun ρ w => (f ρ w).bind fun u w => (g ρ w).bind fun v w => match u.toD.bind (fun d => (RV.v d).seq), v.toD.bind (fun d => (RV.v d).seq) with
    | some (_, xs), some (_, ys) => .ok (zipD xs ys) w
    | _, _ => .bad) :=
  PI.imp (pi_zipV hg hm (pa_c ha (pa_c hb pa_n n2) n1) n1 n2) fun σ H R ⟨G, ρ, w, S, k⟩ => ⟨G, ρ, w, S, out_bind.mpr ((out_bind.mp k).mono fun u w1 h1 => out_bind.mpr (out_bind.mpr ((out_bind.mp h1).mono fun v w2 h2 => by
    show ∀ vs G' H', _ → _ → RRs Z G' H' σ ρ H vs [u, v] → _
    intro vs G1 H1 x1 S1 r1
    cases eu : u.toD with
    | none => rw [eu] at h2; exact h2.elim
    | some d1 =>
      cases ev : v.toD with
      | none => rw [eu, ev] at h2; cases q : (some d1).bind (fun d => (RV.v d).seq) <;> rw [q] at h2 <;> exact h2.elim
      | some d2 =>
        rw [eu, ev] at h2
        have h2 : Out Z Wx G0 E0 _ (match (RV.v d1).seq, (RV.v d2).seq with
          | some (_, xs), some (_, ys) => .ok (zipD xs ys) w2
          | _, _ => .bad) := h2
        obtain ⟨G2, s2, x2, S2, r2⟩ := r1.datas (ds := [d1, d2]) S (fun _ h => h) x1 S1 (by rw [List.mapM_cons, List.mapM_cons, eu, ev]; rfl)
        cases r2 with
        | cons ra rt =>
          cases rt with
          | cons rb rt =>
            cases rt
            split at h2
            · rename_i xs ys e1 e2
              obtain ⟨k1, q1⟩ := kdD_of ra e1
              obtain ⟨k2, q2⟩ := kdD_of rb e2
              obtain ⟨a, rfl, v1⟩ := q1.v
              obtain ⟨b, rfl, v2⟩ := q2.v
              refine ⟨a, b, k1, k2, rfl, v1, v2, by rw [hK]; exact q1.ok G2 H1 _ (fun _ _ h => h) S2.gl, by rw [hK]; exact q2.ok G2 H1 _ (fun _ _ h => h) S2.gl, ?_⟩
              rw [hK]
              exact h2 _ G2 H1 x2 S2 (itok_Z q1.ok q2.ok q1.r q2.r)
            · exact h2.elim)))⟩
theorem rgK {G : Hp} (lo : Int) (n : Nat) : RpL Z G (Kd.R lo n).vs (rngL lo 1 n) := by
  show RpL Z G ((List.range n).map fun i => V.int (lo + (i : Nat))) ((List.range n).map fun i => D.int (lo + (i : Nat) * 1))
  induction List.range n with
  | nil => exact .nil
  | cons i l ih =>
    rw [List.map_cons, List.map_cons]
    refine .cons ?_ ih
    rw [Int.mul_one]
    exact .int _
theorem zpr_end {G H G1 G2 H2 : Hp} {σ : L2.St} {ρ : En} {w2 : Dw} {v : V} {kd : Kd} {xs : List D} {R : It → Hp → Prop} {i j : Int} (hK : X.K = Z.K) (x : Nx G H G2 H2) (s : Sub G1 G2) (S2 : Stt Z G0 E0 G2 H2 σ ρ w2) (q : KdD Z G1 v kd xs) (b1 : big62 i = true) (b2 : big62 j = true)
    (k : ∀ J G' H', Nx G H G' H' → Stt Z G0 E0 G' H' σ ρ w2 → ItOk Z J G' (zipD xs (rngL i 1 (j - i).toNat)) → R J H') :
    ∃ a k1, v = V.ref a ∧ KdV a k1 ∧ k1.ok X.K H2 ∧ -(2 ^ 62) ≤ i ∧ i < 2 ^ 62 ∧ -(2 ^ 62) ≤ j ∧ j < 2 ^ 62 ∧ R (ItZ X.K k1 (.R i (j - i).toNat)) H2 := by
  have q2 := q.sub s
  obtain ⟨a, rfl, v1⟩ := q2.v
  refine ⟨a, kd, rfl, v1, by rw [hK]; exact q2.ok G2 H2 _ (fun _ _ h => h) S2.gl, (big_of b1).1, (big_of b1).2, (big_of b2).1, (big_of b2).2, ?_⟩
  rw [hK]
  exact k _ G2 H2 x S2 (itok_Z q2.ok (fun _ _ _ _ _ => trivial) q2.r (rgK i _))
theorem pi_zpr1 {e3 : Expr} (hK : X.K = Z.K) (hg : Gl X "zip") (hm : X.mg "zip" = none) (hg2 : Gl X "range") (hm2 : X.mg "range" = none) (ha : PE X e (SE Z Wx G0 E0 f)) (hb : PE X e2 (SE Z Wx G0 E0 g)) (n1 : ∀ y q, e ≠ .Starred y q) (n2 : ∀ y q, e2 ≠ .Starred y q) :
    PI X (.Tuple elts kk tpos) (.Call (.Name "zip" p) [e, .Call (.Name "range" p2) [e2] [] pos2] [] pos) (SI Z Wx G0 E0 fun ρ w => (f ρ w).bind fun u w => match u.toD.bind (fun d => (RV.v d).seq) with
    | none => .bad
    | some (_, xs) => ((g ρ w).bind fun u w => (Res.ok ([] : List RV) w).bind fun us w => .ok (u :: us) w).bind fun rs w => match rngI rs with
      | none => .bad
      | some l => .ok (zipD xs l) w) :=
  PI.imp (pi_zipR hg hm ha (prg_1 hg2 hm2 hb (starEach_cons n2)) n1 (by nofun)) fun σ H R ⟨G, ρ, w, S, k⟩ => ⟨G, ρ, w, S, (out_bind.mp k).mono fun u w1 h1 v1 G1 H1 x1 S1 r1 => by
    cases eu : u.toD with
    | none => rw [eu] at h1; exact h1.elim
    | some d1 =>
      rw [eu] at h1
      obtain ⟨G2, s2, x2, S2, r2, _⟩ := RR.data S x1 S1 r1 eu
      cases es : (RV.v d1).seq with
      | none =>
        have h1 : Out Z Wx G0 E0 _ (match (RV.v d1).seq with
          | none => .bad
          | some (_, xs) => ((g ρ w1).bind fun u w => (Res.ok ([] : List RV) w).bind fun us w => .ok (u :: us) w).bind fun rs w => match rngI rs with
            | none => .bad
            | some l => .ok (zipD xs l) w) := h1
        rw [es] at h1
        exact h1.elim
      | some kd =>
        obtain ⟨tt, xs⟩ := kd
        have h1 : Out Z Wx G0 E0 _ (match (RV.v d1).seq with
          | none => .bad
          | some (_, xs) => ((g ρ w1).bind fun u w => (Res.ok ([] : List RV) w).bind fun us w => .ok (u :: us) w).bind fun rs w => match rngI rs with
            | none => .bad
            | some l => .ok (zipD xs l) w) := h1
        rw [es] at h1
        obtain ⟨k1, q1⟩ := kdD_of r2 es
        refine ⟨G2, ρ, w1, S2, (out_bind.mp (out_bind.mp h1)).mono fun u2 w2 h2 v2 G3 H3 x3 S3 r3 => ?_⟩
        replace h2 : Out Z Wx G0 E0 (fun items w' => ∀ J G' H', Nx G H G' H' → Stt Z G0 E0 G' H' σ ρ w' → ItOk Z J G' items → R J H') (match rngI [u2] with
          | none => .bad
          | some l => .ok (zipD xs l) w2) := h2
        cases er : rngI [u2] with
        | none => rw [er] at h2; exact h2.elim
        | some l =>
          rw [er] at h2
          obtain ⟨j, e9, b9, rfl⟩ := rngI_1 er rfl
          cases e9
          have r3 := rr_int r3
          subst r3
          refine ⟨j, rfl, zpr_end hK (x2.trans x3) x3.g S3 q1 (by decide) b9 ?_⟩
          rw [Int.sub_zero]
          exact h2⟩
theorem pi_zpr2 {e3 : Expr} (hK : X.K = Z.K) (hg : Gl X "zip") (hm : X.mg "zip" = none) (hg2 : Gl X "range") (hm2 : X.mg "range" = none) (ha : PE X e (SE Z Wx G0 E0 f)) (hb : PE X e2 (SE Z Wx G0 E0 g)) (hc : PE X e3 (SE Z Wx G0 E0 h)) (n1 : ∀ y q, e ≠ .Starred y q) (n2 : ∀ y q, e2 ≠ .Starred y q) (n3 : ∀ y q, e3 ≠ .Starred y q) :
    PI X (.Tuple elts kk tpos) (.Call (.Name "zip" p) [e, .Call (.Name "range" p2) [e2, e3] [] pos2] [] pos) (SI Z Wx G0 E0 fun ρ w => (f ρ w).bind fun u w => match u.toD.bind (fun d => (RV.v d).seq) with
    | none => .bad
    | some (_, xs) => ((g ρ w).bind fun u w => ((h ρ w).bind fun u w => (Res.ok ([] : List RV) w).bind fun us w => .ok (u :: us) w).bind fun us w => .ok (u :: us) w).bind fun rs w => match rngI rs with
      | none => .bad
      | some l => .ok (zipD xs l) w) :=
  PI.imp (pi_zipR hg hm ha (prg_2 hg2 hm2 hb hc (starEach_cons n2) (starEach_cons n3) (by rw [starEach_cons n3]; rfl)) n1 (by nofun)) fun σ H R ⟨G, ρ, w, S, k⟩ => ⟨G, ρ, w, S, (out_bind.mp k).mono fun u w1 h1 v1 G1 H1 x1 S1 r1 => by
    cases eu : u.toD with
    | none => rw [eu] at h1; exact h1.elim
    | some d1 =>
      rw [eu] at h1
      obtain ⟨G2, s2, x2, S2, r2, _⟩ := RR.data S x1 S1 r1 eu
      have h1 : Out Z Wx G0 E0 _ (match (RV.v d1).seq with
          | none => .bad
          | some (_, xs) => ((g ρ w1).bind fun u w => ((h ρ w).bind fun u w => (Res.ok ([] : List RV) w).bind fun us w => .ok (u :: us) w).bind fun us w => .ok (u :: us) w).bind fun rs w => match rngI rs with
            | none => .bad
            | some l => .ok (zipD xs l) w) := h1
      cases es : (RV.v d1).seq with
      | none =>
        rw [es] at h1
        exact h1.elim
      | some kd =>
        obtain ⟨tt, xs⟩ := kd
        rw [es] at h1
        obtain ⟨k1, q1⟩ := kdD_of r2 es
        refine ⟨G2, ρ, w1, S2, (out_bind.mp (out_bind.mp h1)).mono fun u2 w2 h2 v2 G3 H3 x3 S3 r3 => ⟨G3, ρ, w2, S3, (out_bind.mp (out_bind.mp h2)).mono fun u4 w4 h4 v4 G4 H4 x4 S4 r4 => ?_⟩⟩
        replace h4 : Out Z Wx G0 E0 (fun items w' => ∀ J G' H', Nx G H G' H' → Stt Z G0 E0 G' H' σ ρ w' → ItOk Z J G' items → R J H') (match rngI [u2, u4] with
          | none => .bad
          | some l => .ok (zipD xs l) w4) := h4
        cases er : rngI [u2, u4] with
        | none => rw [er] at h4; exact h4.elim
        | some l =>
          rw [er] at h4
          obtain ⟨i, j, e9, b8, b9, rfl⟩ := rngI_2 er rfl
          cases e9
          have r3 := rr_int r3
          have r4 := rr_int r4
          subst r3 r4
          exact ⟨i, j, rfl, rfl, zpr_end hK (x2.trans (x3.trans x4)) (fun b o z => x4.g b o (x3.g b o z)) S4 q1 b8 b9 h4⟩⟩
theorem pi_en (hK : X.K = Z.K) (hg : Gl X "enumerate") (hm : X.mg "enumerate" = none) (ha : PE X e (SE Z Wx G0 E0 f)) (n1 : ∀ y q, e ≠ .Starred y q) :
    PI X (.Tuple elts kk tpos) (.Call (.Name "enumerate" p) [e] [] pos) (SI Z Wx G0 E0 fun ρ w => (f ρ w).bind fun u w => match u.toD.bind (fun d => (RV.v d).seq) with
    | some (_, ds) => .ok (enumD 0 ds) w
    | none => .bad) :=
  PI.imp (pi_enumV hg hm (pa_c ha pa_n n1) n1) fun σ H R ⟨G, ρ, w, S, k⟩ => ⟨G, ρ, w, S, out_bind.mpr ((out_bind.mp k).mono fun u w1 h1 => by
    show ∀ vs G' H', _ → _ → RRs Z G' H' σ ρ H vs [u] → _
    intro vs G1 H1 x1 S1 r1
    obtain ⟨v, rfl, r3⟩ := r1.one
    cases eu : u.toD with
    | none => rw [eu] at h1; exact h1.elim
    | some d1 =>
      rw [eu] at h1
      replace h1 : Out Z Wx G0 E0 _ (match (RV.v d1).seq with
        | some (_, ds) => .ok (enumD 0 ds) w1
        | none => .bad) := h1
      obtain ⟨G2, s2, x2, S2, r2, _⟩ := RR.data S x1 S1 r3 eu
      cases es : (RV.v d1).seq with
      | none => rw [es] at h1; exact h1.elim
      | some kd =>
        obtain ⟨tt, xs⟩ := kd
        rw [es] at h1
        obtain ⟨k1, q1⟩ := kdD_of r2 es
        obtain ⟨a, rfl, v1⟩ := q1.v
        refine ⟨a, k1, rfl, v1, by rw [hK]; exact q1.ok G2 H1 _ (fun _ _ h => h) S2.gl, ?_⟩
        rw [hK]
        exact h1 _ G2 H1 x2 S2 (itok_N q1.ok q1.r))⟩
end
end VM
set_option Elab.async false
set_option linter.all false
set_option maxRecDepth 100000
set_option maxHeartbeats 2000000
/-! VmZk: the catcher's call: its rule. -/
namespace VM
open PySem PySem.Spec L2 LamX
/-- what a frame needs beside, to make lambdas -/
structure FX (Z : Zed) (k : Nat) (X : Cx) : Prop where
  room2 : Room (k + 2) X.A
  code : ∃ c P, TabB X.base X.mg c P ∧ X.env.code = .ref c ∧ (P, X.env.qual ++ "<lambda>") ∈ Z.T ∧ ∀ p ∈ Z.T, p.1 = P → p.2 = X.env.qual ++ "<lambda>"
/-- the catcher: its def as it stands in the heap, the class that it catches -/
structure CauI (Z : Zed) (x : Str) (takes : Nat → Bool) : Prop where
  ok : ∃ (g CS : Addr) (a v n e : Str) (sg : Scope) (pg : Arguments) (dV kV doc pm cdv ct oc : Value) (an od : Option Addr) (osl : Array (Option Value)) (j : Nat) (p1 p2 p3 p4 p5 p6 p7 p8 p9 q1 q2 q3 q4 q5 : Pos),
    Z.mg x = some (.ref g) ∧ PySem.W.keepIn Z.K (.ref g) = true ∧
    Z.K.lookup g = some ⟨oc, od, .func (PySem.W.fnOf x x pg (cauBody a v n e j p1 p2 p3 p4 p5 p6 p7 p8 p9 q1 q2 q3 q4 q5) sg dV kV doc pm an cdv ct), osl⟩ ∧
    PySem.W.codeIn Z.K cdv x = true ∧ L2.Binds Z.K (PySem.W.fnOf x x pg (cauBody a v n e j p1 p2 p3 p4 p5 p6 p7 p8 p9 q1 q2 q3 q4 q5) sg dV kV doc pm an cdv ct) [a] [] ∧ FnScope [a, v, n] [a] sg ∧
    sg.names.lookup e = some .globalImplicit ∧ Z.mg e = some (.ref CS) ∧ (e == ("__debug__" : Str)) = false ∧ sg.names.lookup a = some .local ∧ sg.names.lookup v = some .local ∧ sg.names.lookup n = some .local ∧ [a, v, n].Nodup ∧
    (v == ("__debug__" : Str)) = false ∧ (v == ("__classdict__" : Str)) = false ∧ (n == ("__debug__" : Str)) = false ∧ (n == ("__classdict__" : Str)) = false ∧ (a == ("__debug__" : Str)) = false ∧ (a == ("__classdict__" : Str)) = false ∧
    ∀ c, takes c = true → PySem.W.exmOne Z.K (.ref (Z.ca c)) (.ref CS) = some true
section
variable {Z : Zed} {Wx : Value → Option Addr → Hp → Prop} {G0 E0 : Hp} {X : Cx} {k : Nat} {gu : Bool} {sc : Scope} {N : List Str} {x : Str} {p pos lpos : Pos} {body : Expr} {scope : Scope}
/-- a lambda's frame -/
theorem fc_lam (c : FC Z k gu Wx X sc N) {A : Around} {outer : List Env} {s : Shared} {H : Hp} {E : XK} {f c' : Addr} (L : LamS X.env.scope scope) (hr : Room k (A.deeper (lamEnv X scope s.heap.objs.size f c'))) : FC Z k false E (lamCx X A outer s H E scope f c') scope N where
  hP := c.hP
  hw := c.hw
  hK := c.hK
  hm := c.hm
  hb := c.hb
  calm := rfl
  hN := c.hN
  nd := c.nd
  hsc := rfl
  tk := takes_of rfl rfl rfl rfl
  room := hr
  gd := fun z => by cases z
theorem pe_caught {takes : Nat → Bool} {fE : En → Dw → Res RV} (c : FC Z k gu Wx X sc N) (fx : FX Z k X) (i : CauI Z x takes) (hg : Gl X x) (L : LamS X.env.scope scope) (hdb : (x == ("__debug__" : Str)) = false)
    (hbody : ∀ (A : Around) (outer : List Env) (s : Shared) (H : Hp) (E : XK) (f c' : Addr), FC Z k false E (lamCx X A outer s H E scope f c') scope N → ∀ G1 E1, PE (lamCx X A outer s H E scope f c') body (SE Z E G1 E1 fE)) :
    PE X (.Call (.Name x p) [.Lambda ⟨[], [], none, [], [], none, []⟩ body scope lpos] [] pos) (SE Z Wx G0 E0 fun ρ w => match fE (ρ.map Sl.sh) w with
    | .ok _ w => .ok (.v .non) w
    | .exc er w => if takes er.c then .ok (.v (.err er.c er.fs)) w else .bad
    | .bad => .bad) := by
  obtain ⟨g, CS, a, v, n, e, sg, pg, dV, kV, doc, pm, cdv, ct, oc, an, od, osl, j, p1, p2, p3, p4, p5, p6, p7, p8, p9, q1, q2, q3, q4, q5, m1, kp, lk, cd, bi, fs, ge, me, de, la, lv, ln, nd, d1, d2, d3, d4, d5, d6, tk⟩ := i.ok
  obtain ⟨cc, P, tb, hc, hm, hu⟩ := fx.code
  refine PE.imp (pe_lamcallD (T := Z.T) (TT := TCau X.K CS) (a := a) (g := g) (c := cc) (P := P) (k := k) (Ng := [a, v, n]) (t := fun E σ H Q => ∃ G1 E1, SE Z E G1 E1 fE σ H Q) hg (by rw [c.hm]; exact m1) (by rw [c.hK]; exact kp) (by rw [c.hK]; exact lk) (by rw [c.hK]; exact cd) (by rw [c.hK]; exact bi) fs rfl (.inl la) ?_ tb hc hm hu fx.room2 L rfl ?_ ?_ hdb d5 d6) fun σ H Q h => caught_read c.hK tk h
  · exact caught_gives ge (by rw [c.hm]; exact me) de lv ln nd d1 d2 d3 d4
  · intro q cl pm cv ctv
    rfl
  · intro A outer s H E f c' hr
    exact PE.ex fun G1 => PE.ex fun E1 => hbody A outer s H E f c' (fc_lam c L hr) G1 E1
end
end VM
set_option Elab.async false
set_option linter.all false
set_option maxRecDepth 100000
set_option maxHeartbeats 2000000
/-! VmZl: the check that a piece of the code is the program's text: what it asks. -/
namespace VM
open PySem PySem.Spec L2 LamX

structure FnT where
  nm : Str
  gu : Bool
  ps : List Str
  kt : KwT
/-- what is known of the module's names -/
structure Tab where
  fns : List FnT
  cls : List Str
  con : List (Str × D)
  cau : Str
  tys : List (Ty × Str)
structure Sco where
  la : Bool
  gu : Bool
  sc : Scope

mutual
def sameD : D → D → Bool
  | .non, b => match b with | .non => true | _ => false
  | .bl a, b => match b with | .bl b => a == b | _ => false
  | .int a, b => match b with | .int b => decide (a = b) | _ => false
  | .str a, b => match b with | .str b => decide (a = b) | _ => false
  | .tup a, b => match b with | .tup b => sameDs a b | _ => false
  | .lst a, b => match b with | .lst b => sameDs a b | _ => false
  | .fn a, b => match b with | .fn b => decide (a = b) | _ => false
  | .cl a, b => match b with | .cl b => decide (a = b) | _ => false
  | _, _ => false
def sameDs : List D → List D → Bool
  | [], b => b.isEmpty
  | a :: r, b => match b with | b :: s => sameD a b && sameDs r s | [] => false
end
mutual
theorem sameD_eq : ∀ {a b : D}, sameD a b = true → a = b
  | .non, b, h => by cases b <;> first | rfl | exact (Bool.false_ne_true h).elim
  | .bl a, b, h => by cases b <;> first | exact (Bool.false_ne_true h).elim | exact congrArg D.bl (eq_of_beq h)
  | .int a, b, h => by cases b <;> first | exact (Bool.false_ne_true h).elim | exact congrArg D.int (of_decide_eq_true h)
  | .str a, b, h => by cases b <;> first | exact (Bool.false_ne_true h).elim | exact congrArg D.str (of_decide_eq_true h)
  | .tup a, b, h => by cases b <;> first | exact (Bool.false_ne_true h).elim | exact congrArg D.tup (sameDs_eq h)
  | .lst a, b, h => by cases b <;> first | exact (Bool.false_ne_true h).elim | exact congrArg D.lst (sameDs_eq h)
  | .fn a, b, h => by cases b <;> first | exact (Bool.false_ne_true h).elim | exact congrArg D.fn (of_decide_eq_true h)
  | .cl a, b, h => by cases b <;> first | exact (Bool.false_ne_true h).elim | exact congrArg D.cl (of_decide_eq_true h)
  | .err _ _, b, h => (Bool.false_ne_true h).elim
  | .dr, b, h => (Bool.false_ne_true h).elim
  | .scr _, b, h => (Bool.false_ne_true h).elim
theorem sameDs_eq : ∀ {a b : List D}, sameDs a b = true → a = b
  | [], b, h => by cases b with | nil => rfl | cons _ _ => exact (Bool.false_ne_true h).elim
  | a :: r, b, h => by
    cases b with
    | nil => exact (Bool.false_ne_true h).elim
    | cons b s =>
      have h : (sameD a b && sameDs r s) = true := h
      rw [Bool.and_eq_true] at h
      rw [sameD_eq h.1, sameDs_eq h.2]
end
def constD : Const → Option D
  | .none => some .non
  | .bool b => some (.bl b)
  | .int i => some (.int i)
  | .str x => some (.str x)
  | _ => none
def glB (sc : Scope) (x : Str) : Bool := decide (sc.names.lookup x = some .globalImplicit) && !(x == ("__debug__" : Str))
def visB (sc : Scope) (x : Str) : Bool := match sc.names.lookup x with
  | some .local | some .cell | some .free => true
  | _ => false
def locB (sc : Scope) (x : Str) : Bool := match sc.names.lookup x with
  | some .local | some .cell => true
  | _ => false
def nmB (N : List Str) (sc : Scope) (i : Nat) (x : Str) : Bool := decide (N[i]? = some x) && visB sc x && !(x == ("__debug__" : Str)) && !(x == ("__classdict__" : Str))
def nostar : Expr → Bool
  | .Starred _ _ => false
  | _ => true
def plainIx : Expr → Bool
  | .Slice _ _ _ _ => false
  | _ => true
def notSet : Expr → Bool
  | .Set _ _ _ => false
  | _ => true
def isTuple : Expr → Bool
  | .Tuple _ _ _ => true
  | _ => false
def biN : Bi → Str
  | .len => "len" | .sum => "sum" | .all => "all" | .any => "any" | .sorted => "sorted" | .min => "min" | .max => "max" | .abs => "abs"
  | .int => "int" | .tuple => "tuple" | .list => "list" | .setl => "len" | .repr => "repr" | .str => "str"
def bltNs : List Str := ["len", "sum", "all", "any", "sorted", "min", "max", "abs", "int", "tuple", "list", "repr", "set", "range", "zip", "enumerate", "isinstance", "str"]
/-- a block's own names, with their slots -/
def ownL (N : List Str) (own : List Nat) : List (Str × Nat) := own.map fun i => (N.getD i "", i)
def blkB (N : List Str) (sc scope : Scope) (own : List (Str × Nat)) : Bool :=
  decide (scope.kind = .function) && (scope.names.all fun y => decide (scope.names.lookup y.1 = some y.2)) && (own.all fun p => decide (N[p.2]? = some p.1)) &&
  (scope.names.all fun y => !decide (y.2 = .free) || decide (sc.names.lookup y.1 = some .cell) || decide (sc.names.lookup y.1 = some .free)) &&
  (scope.names.all fun y => !(decide (y.2 = .local) || decide (y.2 = .cell)) || (own.map (·.1)).contains y.1 || !N.contains y.1)
/-- targets: names of the scope -/
def tgL (N : List Str) (sc : Scope) : List Nat → List Expr → Bool
  | [], ts => ts.isEmpty
  | i :: is, ts => match ts with
    | .Name x _ :: ts => decide (N[i]? = some x) && locB sc x && tgL N sc is ts
    | _ => false
def tgB (N : List Str) (sc : Scope) : Pt → Expr → Bool
  | .nm i, t => match t with
    | .Name x _ => decide (N[i]? = some x) && locB sc x
    | _ => false
  | .tp is, t => match t with
    | .Tuple ts _ _ => tgL N sc is ts
    | _ => false
/-- a block's target: a plain local, or a cell of the block's own -/
def bnB (own sc : Scope) (x : Str) : Bool := decide (sc.names.lookup x = some .local) || (decide (sc.names.lookup x = some .cell) && decide (own.names.lookup x = some .cell))
/-- targets in a block -/
def ptL (N : List Str) (own sc : Scope) : List Nat → List Expr → Bool
  | [], ts => ts.isEmpty
  | i :: is, ts => match ts with
    | .Name x _ :: ts => decide (N[i]? = some x) && bnB own sc x && ptL N own sc is ts
    | _ => false
def ptB (N : List Str) (own sc : Scope) : Pt → Expr → Bool
  | .nm i, t => match t with
    | .Name x _ => decide (N[i]? = some x) && bnB own sc x
    | _ => false
  | .tp is, t => match t with
    | .Tuple ts _ _ => ptL N own sc is ts
    | _ => false
def noPar : Arguments → Bool
  | ⟨[], [], none, [], [], none, []⟩ => true
  | _ => false
def isNil : Es → Bool
  | .nil => true
  | _ => false

mutual
def chkE (T : Tab) (N : List Str) : E → Sco → Expr → Bool
  | .k d, g, t => match t with
    | .Constant c _ _ => (match constD c with
      | some d' => sameD d d'
      | none => false)
    | .Name x _ => glB g.sc x && (match T.con.lookup x with
      | some d' => sameD d d'
      | none => false)
    | _ => false
  | .emp, _, t => match t with
    | .Dict [] [] _ => true
    | _ => false
  | .x i, g, t => match t with
    | .Name x _ => nmB N g.sc i x
    | _ => false
  | .bin o a b, g, t => match t with
    | .BinOp l op r _ => decide (op = bopA o) && (chkE T N a g l && chkE T N b g r)
    | _ => false
  | .neg a, g, t => match t with
    | .UnaryOp .USub s _ => chkE T N a g s
    | _ => false
  | .not a, g, t => match t with
    | .UnaryOp .Not s _ => chkE T N a g s
    | _ => false
  | .cmp o a b, g, t => match t with
    | .Compare l [op] [r] _ => decide (op = copA o) && !behindInMarks (copA o) r && (chkE T N a g l && chkE T N b g r)
    | _ => false
  | .ch2 o q a b c, g, t => match t with
    | .Compare l [op, op2] [r, r2] _ => decide (op = copA o) && decide (op2 = copA q) && !lastMarks [copA o, copA q] [r, r2] && (chkE T N a g l && (chkE T N b g r && chkE T N c g r2))
    | _ => false
  | .boo k es, g, t => match t with
    | .BoolOp op vs _ => decide (op = booA k) && chkB T N es g vs
    | _ => false
  | .ife c a b, g, t => match t with
    | .IfExp tc ta tb _ => chkE T N c g tc && (chkE T N a g ta && chkE T N b g tb)
    | _ => false
  | .call f as, g, t => match t with
    | .Call (.Name x _) args [] _ => glB g.sc x && (match T.fns[f]? with
      | some e => decide (e.nm = x) && (!e.gu || g.gu) && decide (args.length = e.ps.length)
      | none => false) && args.all nostar && chkEs T N as g args
    | _ => false
  | .callk f as ks ord, g, t => match t with
    | .Call (.Name x _) args kws _ => glB g.sc x && (match T.fns[f]? with
      | some e => decide (e.nm = x) && (!e.gu || g.gu) && decide (ord.length = e.ps.length) && decide ((args.length, kws.filterMap (·.arg), ord) ∈ e.kt)
      | none => false) && (kws.all (·.arg.isSome)) && args.all nostar && (chkEs T N as g args && chkKs T N ks g kws)
    | _ => false
  | .callx i as, g, t => match t with
    | .Call (.Name x _) args [] _ => nmB N g.sc i x && !args.isEmpty && args.all nostar && chkEs T N as g args
    | _ => false
  | .bi f as, g, t => match t with
    | .Call (.Name x _) args [] _ => glB g.sc x && (match f with
      | .setl => decide (x = "len") && (match args with
        | [.Call (.Name y _) [a] [] _] => glB g.sc y && decide (y = "set") && nostar a && chkEs T N as g [a]
        | _ => false)
      | f => decide (x = biN f) && (!decide (f = .repr) || g.gu) && !args.isEmpty && args.all nostar && chkEs T N as g args)
    | _ => false
  | .tup es, g, t => match t with
    | .Tuple ts _ _ => chkEs T N es g ts
    | _ => false
  | .lst es, g, t => match t with
    | .List ts _ => chkEs T N es g ts
    | _ => false
  | .lc e p s t own, g, a => match a with
    | .ListComp elt [⟨tg, iter, ifs, asy⟩] scope _ => decide (asy = 0) && blkB N g.sc scope (ownL N own) && ptB N scope (relS scope g.sc) p tg && (p.slots.all (own.contains ·)) && notSet iter &&
      (chkS T N s g tg iter && (chkT T N t ⟨false, g.gu, relS scope g.sc⟩ ifs && chkE T N e ⟨false, g.gu, relS scope g.sc⟩ elt))
    | _ => false
  | .ix a i, g, t => match t with
    | .Subscript o ix _ => plainIx ix && (chkE T N a g o && chkE T N i g ix)
    | _ => false
  | .sl a lo hi, g, t => match t with
    | .Subscript o (.Slice l h none _) _ => chkE T N a g o && (chkO T N lo g l && chkO T N hi g h)
    | _ => false
  | .rv a, g, t => match t with
    | .Subscript o (.Slice none none (some (.UnaryOp .USub (.Constant (.int n) _ _) _)) _) _ => decide (n = 1) && chkE T N a g o
    | _ => false
  | .sq k s, g, t => match t with
    | .Call (.Name x _) [.Call (.Name y _) args [] _] [] _ => glB g.sc x && glB g.sc y && decide (x = (if k then ("tuple" : Str) else ("list" : Str))) && decide (y = "range") && args.all nostar && chkR T N s g args
    | _ => false
  | .fld a n, g, t => match t with
    | .Attribute (.Name y p) m _ => decide (m = n) && chkE T N a g (.Name y p)
    | _ => false
  | .isi a ty, g, t => match t with
    | .Call (.Name x _) [o, .Name tn _] [] _ => glB g.sc x && decide (x = "isinstance") && glB g.sc tn && nostar o && decide ((ty, tn) ∈ T.tys) && chkE T N a g o
    | _ => false
  | .caught e, g, t => match t with
    | .Call (.Name x _) [.Lambda ps body scope _] [] _ => g.la && glB g.sc x && decide (x = T.cau) && decide (T.cau ≠ "") && noPar ps && lamSB g.sc scope && chkE T N e ⟨false, false, scope⟩ body
    | _ => false
  | .dG i f, g, t => match t with
    | .Subscript (.Name x _) (.Constant (.str s) _ _) _ => nmB N g.sc i x && decide (s = keyD f)
    | _ => false
  | .dL i, g, t => match t with
    | .Compare (.Subscript (.Name x _) (.Constant (.str s) _ _) _) [.NotEq] [.List [] _] _ => nmB N g.sc i x && decide (s = "large")
    | _ => false
  | .dP i, g, t => match t with
    | .Call (.Attribute (.Subscript (.Name x _) (.Constant (.str s) _ _) _) m apos) [.Constant (.int z) _ _] [] cpos => nmB N g.sc i x && decide (s = "large") && decide (m = "pop") && decide (z = 0) && (apos.endLine == cpos.line)
    | _ => false
def chkEs (T : Tab) (N : List Str) : Es → Sco → List Expr → Bool
  | .nil, _, ts => ts.isEmpty
  | .cons false e r, g, ts => match ts with
    | t :: ts => nostar t && (chkE T N e g t && chkEs T N r g ts)
    | [] => false
  | .cons true e r, g, ts => match ts with
    | .Starred t _ :: ts => chkE T N e g t && chkEs T N r g ts
    | _ => false
def chkKs (T : Tab) (N : List Str) : Es → Sco → List Keyword → Bool
  | .nil, _, ts => ts.isEmpty
  | .cons false e r, g, ts => match ts with
    | t :: ts => chkE T N e g t.value && chkKs T N r g ts
    | [] => false
  | .cons true _ _, _, _ => false
def chkB (T : Tab) (N : List Str) : Es → Sco → List Expr → Bool
  | .nil, _, _ => false
  | .cons _ e r, g, ts => match ts with
    | [] => false
    | [t] => isNil r && chkE T N e g t
    | t :: ts => chkE T N e g t && chkB T N r g ts
def chkO (T : Tab) (N : List Str) : Eo → Sco → Option Expr → Bool
  | .no, _, t => t.isNone
  | .so e, g, t => match t with
    | some t => chkE T N e g t
    | none => false
def chkT (T : Tab) (N : List Str) : Eo → Sco → List Expr → Bool
  | .no, _, t => t.isEmpty
  | .so e, g, t => match t with
    | [t] => chkE T N e g t
    | _ => false
/-- a source of a loop: target, text -/
def chkS (T : Tab) (N : List Str) : Src → Sco → Expr → Expr → Bool
  | .e a, g, _, t => chkE T N a g t
  | .rng as, g, _, t => match t with
    | .Call (.Name x _) args [] _ => glB g.sc x && decide (x = "range") && args.all nostar && decide (args.length = 1 ∨ args.length = 2 ∨ args.length = 3) && chkEs T N as g args
    | _ => false
  | .en a o, g, tg, t => match o with
    | .no => (match t with
      | .Call (.Name x _) [e] [] _ => glB g.sc x && decide (x = "enumerate") && nostar e && isTuple tg && chkE T N a g e
      | _ => false)
    | .so _ => false
  | .zp a b, g, tg, t => match t with
    | .Call (.Name x _) [e, e2] [] _ => glB g.sc x && decide (x = "zip") && nostar e && nostar e2 && isTuple tg && (chkE T N a g e && chkE T N b g e2)
    | _ => false
  | .zpr a bs, g, tg, t => match t with
    | .Call (.Name x _) [e, .Call (.Name y _) args [] _] [] _ => glB g.sc x && decide (x = "zip") && nostar e && isTuple tg && glB g.sc y && decide (y = "range") && args.all nostar && decide (args.length = 1 ∨ args.length = 2) && (chkE T N a g e && chkEs T N bs g args)
    | _ => false
  | .rv _, _, _, _ => false
/-- a range's arguments -/
def chkR (T : Tab) (N : List Str) : Src → Sco → List Expr → Bool
  | .rng as, g, args => decide (args.length = 1 ∨ args.length = 2) && chkEs T N as g args
  | _, _, _ => false
end
/-- what the checker's table promises -/
structure TabOk (Z : Zed) (C : Cfg) (Φ : Phi) (k : Nat) (T : Tab) : Prop where
  fn : ∀ f e, T.fns[f]? = some e → FnI Z k e.gu (Φ f) (Z.fa f) e.nm e.ps e.kt
  cl : ∀ c x, T.cls[c]? = some x → ClI Z c x
  con : ∀ x d, T.con.lookup x = some d → ∃ v u, Z.mg x = some u ∧ RelV v u ∧ ∀ G, Rp Z G v d
  cau : T.cau ≠ "" → CauI Z T.cau C.takes
  no : ∀ x ∈ bltNs, Z.mg x = none
  ty : ∀ t x, (t, x) ∈ T.tys → ∃ cv u, TyI Z C.sub t cv u ∧ RelV cv u ∧ (Z.mg x = some u ∨ (Z.mg x = none ∧ bootBuiltins x = some u ∧ x ≠ "__name__"))
  fldN : C.fldN = Z.fldN
  fld : ∀ n c, (Z.fldN c).contains n = true → XfC Z.K (Z.ca c) ∧ PySem.W.findIn Z.K (.ref (Z.ca c)) n = some none
  cx : ∀ f, C.cx f = true → ∃ y ps kt, FnI Z k false (Φ f) (Z.fa f) y ps kt
end VM
set_option Elab.async false
set_option linter.all false
set_option maxRecDepth 100000
set_option maxHeartbeats 4000000
/-! VmZm: what the check of an expression gives: lemmas, case by case. -/
namespace VM
open PySem PySem.Spec L2 LamX
section
variable {Z : Zed} {C : Cfg} {Φ : Phi} {k : Nat} {T : Tab} {N : List Str} {Wx : Value → Option Addr → Hp → Prop} {G0 E0 : Hp} {X : Cx} {gu : Bool} {sc : Scope} {x y : Str} {i : Nat}
theorem dbg_of {x : Str} (h : (!(x == ("__debug__" : Str))) = true) : (x == ("__debug__" : Str)) = false := by
  rw [Bool.not_eq_true'] at h
  exact h
theorem gl_of (c : FC Z k gu Wx X sc N) (h : glB sc x = true) : Gl X x ∧ (x == ("__debug__" : Str)) = false := by
  unfold glB at h
  rw [Bool.and_eq_true, decide_eq_true_eq] at h
  refine ⟨?_, dbg_of h.2⟩
  show X.env.scope.names.lookup x = _
  rw [c.hsc]
  exact h.1
theorem vis_of (h : visB sc x = true) : Vis sc x := by
  unfold visB at h
  unfold Vis
  split at h
  · exact .inl ‹_›
  · exact .inr (.inl ‹_›)
  · exact .inr (.inr ‹_›)
  · cases h
theorem loc_of (h : locB sc x = true) : L2.Loc sc x := by
  unfold locB at h
  unfold L2.Loc
  split at h
  · exact .inl ‹_›
  · exact .inr ‹_›
  · cases h
theorem nm_of (c : FC Z k gu Wx X sc N) (h : nmB N sc i x = true) : NmX X i x := by
  unfold nmB at h
  simp only [Bool.and_eq_true, decide_eq_true_eq, Bool.not_eq_true'] at h
  obtain ⟨⟨⟨h1, h2⟩, h3⟩, h4⟩ := h
  exact ⟨by rw [c.hN]; exact h1, by rw [c.hsc]; exact vis_of h2, h3, h4⟩
theorem ns_of {e : Expr} (h : nostar e = true) : ∀ y p, e ≠ .Starred y p := fun y p z => by
  subst z
  exact (Bool.false_ne_true h).elim
theorem nss_of {es : List Expr} (h : es.all nostar = true) : ∀ e ∈ es, ∀ y p, e ≠ .Starred y p := fun e he => ns_of (List.all_eq_true.mp h e he)
theorem plain_of {e : Expr} (h : plainIx e = true) : PlainIx e := fun o i => by
  cases e <;> first | rfl | exact (Bool.false_ne_true h).elim
theorem fold_of {e : Expr} {env : Env} (h : notSet e = true) : ∀ x, foldedSetIterable e env x = pure x := fun x => by
  cases e <;> first | rfl | exact (Bool.false_ne_true h).elim
theorem un_of (c : FC Z k gu Wx X sc N) : X.A.units + 65 < cLine := by have := c.room.un; omega
theorem mg_no (c : FC Z k gu Wx X sc N) (t : TabOk Z C Φ k T) (h : x ∈ bltNs) : X.mg x = none := by
  rw [c.hm]
  exact t.no x h
/-- as a value, as a test: where a test is the value's truth -/
theorem both {a : Expr} {f : En → Dw → Res RV} (c : FC Z k gu Wx X sc N) (ha : PE X a (SE Z Wx G0 E0 f)) (he : ∀ whole, isTrue a X.env whole = (do let v ← whole; standAt a.pos; holding [v] (truthy v))) : PE X a (SE Z Wx G0 E0 f) ∧ PT X a (ST Z Wx G0 E0 f) :=
  ⟨ha, pt_of c.hK ha he⟩
/-- a block's frame -/
theorem fc_blk (c : FC Z k gu Wx X sc N) {s : Shared} {H : Hp} {scope : Scope} {cl : List (Str × Addr)} {D : Addr} {fp : List Addr} : FC Z k gu W0 (X.blk s H scope (compEnvC scope cl D X.env) fp) (relS scope sc) N where
  hP := c.hP
  hw := c.hw
  hK := c.hK
  hm := c.hm
  hb := c.hb
  calm := c.calm
  hN := c.hN
  nd := c.nd
  hsc := by
    show relS scope X.env.scope = _
    rw [c.hsc]
  tk := fun _ _ ⟨_, _, _, _, _, _, _, _, _, _, _, _, _, _, _, _, w⟩ => w.elim
  room := c.room
  gd := c.gd
theorem blk_of (c : FC Z k gu Wx X sc N) {scope : Scope} {own : List (Str × Nat)} (h : blkB N sc scope own = true) : BlkOk X.N X.env.scope scope own := by
  unfold blkB at h
  simp only [Bool.and_eq_true, decide_eq_true_eq, List.all_eq_true, Bool.or_eq_true, Bool.not_eq_true', decide_eq_false_iff_not, Bool.or_eq_false_iff] at h
  obtain ⟨⟨⟨⟨h1, h2⟩, h3⟩, h4⟩, h5⟩ := h
  rw [c.hN, c.hsc]
  refine ⟨h1, h2, h3, fun y hy e => ?_, fun y hy e => ?_⟩
  · rcases h4 y hy with (z | z) | z
    · exact absurd e z
    · exact .inl z
    · exact .inr z
  · rcases h5 y hy with (z | z) | z
    · rcases e with e | e
      · exact absurd e z.1
      · exact absurd e z.2
    · exact .inl (by simpa using z)
    · exact .inr (by simpa using z)
theorem own_snd {own : List Nat} : (ownL N own).map (·.2) = own := by
  unfold ownL
  rw [List.map_map]
  show own.map (fun i => i) = own
  exact List.map_id' own
/-- targets in a block -/
theorem bn_of (c : FC Z k gu Wx X sc N) {own : Scope} (hf : ∀ x, own.names.lookup x = some .cell → X.fn x = true) {x : Str} (h : bnB own sc x = true) : L2.Loc X.env.scope x ∧ (X.fn x = true ∨ X.env.scope.names.lookup x = some .local) := by
  unfold bnB at h
  simp only [Bool.or_eq_true, Bool.and_eq_true, decide_eq_true_eq] at h
  rw [c.hsc]
  rcases h with h | ⟨h, h2⟩
  · exact ⟨.inl h, .inr h⟩
  · exact ⟨.inr h, .inl (hf x h2)⟩
theorem ptL_of (c : FC Z k gu Wx X sc N) {own : Scope} (hf : ∀ x, own.names.lookup x = some .cell → X.fn x = true) : ∀ {is : List Nat} {ts : List Expr}, ptL N own sc is ts = true → Paired (NmOk X) is ts
  | [], ts, h => by
    cases ts with
    | nil => exact .nil
    | cons _ _ => exact (Bool.false_ne_true h).elim
  | i :: is, ts, h => by
    cases ts with
    | nil => exact (Bool.false_ne_true h).elim
    | cons t ts' =>
      cases t <;> first | exact (Bool.false_ne_true h).elim | skip
      rename_i x p
      have h : (decide (N[i]? = some x) && bnB own sc x && ptL N own sc is ts') = true := h
      simp only [Bool.and_eq_true, decide_eq_true_eq] at h
      obtain ⟨b1, b2⟩ := bn_of c hf h.1.2
      exact .cons ⟨x, p, rfl, by rw [c.hN]; exact h.1.1, b1, b2⟩ (ptL_of c hf h.2)
theorem pg_ptB (c : FC Z k gu Wx X sc N) {own : Scope} (hf : ∀ x, own.names.lookup x = some .cell → X.fn x = true) {p : Pt} {tg : Expr} (h : ptB N own sc p tg = true) : PG X tg (SG Z G0 E0 p) := by
  have nd : X.N.Nodup := by rw [c.hN]; exact c.nd
  cases p with
  | nm i =>
    cases tg <;> first | exact (Bool.false_ne_true h).elim | skip
    rename_i x pos
    have h : (decide (N[i]? = some x) && bnB own sc x) = true := h
    simp only [Bool.and_eq_true, decide_eq_true_eq] at h
    obtain ⟨b1, b2⟩ := bn_of c hf h.2
    exact pg_nm nd (by rw [c.hN]; exact h.1) b1 b2
  | tp is =>
    cases tg <;> first | exact (Bool.false_ne_true h).elim | skip
    exact pg_tp c.calm nd c.hK (ptL_of c hf h)
/-- targets in a def -/
theorem tgL_of (c : FC Z k gu Wx X sc N) (hf : ∀ x, X.fn x = true) : ∀ {is : List Nat} {ts : List Expr}, tgL N sc is ts = true → Paired (NmOk X) is ts
  | [], ts, h => by
    cases ts with
    | nil => exact .nil
    | cons _ _ => exact (Bool.false_ne_true h).elim
  | i :: is, ts, h => by
    cases ts with
    | nil => exact (Bool.false_ne_true h).elim
    | cons t ts' =>
      cases t <;> first | exact (Bool.false_ne_true h).elim | skip
      rename_i x p
      have h : (decide (N[i]? = some x) && locB sc x && tgL N sc is ts') = true := h
      simp only [Bool.and_eq_true, decide_eq_true_eq] at h
      refine .cons ⟨x, p, rfl, by rw [c.hN]; exact h.1.1, ?_, .inl (hf x)⟩ (tgL_of c hf h.2)
      rw [c.hsc]; exact loc_of h.1.2
theorem pg_tgB (c : FC Z k gu Wx X sc N) (hf : ∀ x, X.fn x = true) {p : Pt} {tg : Expr} (h : tgB N sc p tg = true) : PG X tg (SG Z G0 E0 p) ∧ PG X tg (SGr Z G0 E0 p) := by
  have nd : X.N.Nodup := by rw [c.hN]; exact c.nd
  cases p with
  | nm i =>
    cases tg <;> first | exact (Bool.false_ne_true h).elim | skip
    rename_i x pos
    have h : (decide (N[i]? = some x) && locB sc x) = true := h
    simp only [Bool.and_eq_true, decide_eq_true_eq] at h
    have h1 : X.N[i]? = some x := by rw [c.hN]; exact h.1
    have h2 : L2.Loc X.env.scope x := by rw [c.hsc]; exact loc_of h.2
    exact ⟨pg_nm nd h1 h2 (.inl (hf x)), pg_nmR nd h1 h2 (.inl (hf x))⟩
  | tp is =>
    cases tg <;> first | exact (Bool.false_ne_true h).elim | skip
    exact ⟨pg_tp c.calm nd c.hK (tgL_of c hf h), pg_tpR c.calm nd c.hK (tgL_of c hf h)⟩
/-! ### built-in functions -/
theorem pe_bi (c : FC Z k gu Wx X sc N) (t : TabOk Z C Φ k T) {f : Bi} {e : Expr} {es : List Expr} {fs : En → Dw → Res (List RV)} {p pos : Pos} (hf : f ≠ .setl) (hg : f = .repr → gu = true) (hx : x = biN f) (hgl : Gl X x) (hdb : (x == ("__debug__" : Str)) = false) (ha : PA X (e :: es) (SA Z Wx G0 E0 fs)) (hp : ∀ y ∈ e :: es, ∀ z p, y ≠ .Starred z p) :
    PE X (.Call (.Name x p) (e :: es) [] pos) (SE Z Wx G0 E0 fun ρ w => (fs ρ w).bind fun rs w => .opt (bi f rs) w) := by
  have hu := un_of c
  subst hx
  have hm : X.mg (biN f) = none := mg_no c t (by cases f <;> decide)
  cases f with
  | len => exact pe_biB (bi_len (Z := Z)) (by rw [← c.hK]; exact cr_len) hgl hm (by rfl) ha (by decide) hdb hp
  | sum => exact pe_biB (bi_sum (Z := Z)) (by rw [← c.hK]; exact cr_sumA c.calm) hgl hm (by rfl) ha (by decide) hdb hp
  | all => exact pe_biB (bi_all (Z := Z)) (by rw [← c.hK]; exact cr_all c.calm) hgl hm (by rfl) ha (by decide) hdb hp
  | any => exact pe_biB (bi_any (Z := Z)) (by rw [← c.hK]; exact cr_any c.calm) hgl hm (by rfl) ha (by decide) hdb hp
  | sorted => exact pe_biB (bi_sorted (Z := Z)) (by rw [← c.hK]; exact cr_sortA hu) hgl hm (by rfl) ha (by decide) hdb hp
  | min => exact pe_biB (bi_min (Z := Z)) (call_min2 c.calm) hgl hm (by rfl) ha (by decide) hdb hp
  | max => exact pe_biB (bi_max (Z := Z)) (call_max2 c.calm) hgl hm (by rfl) ha (by decide) hdb hp
  | abs => exact pe_biB (bi_abs (Z := Z)) call_abs hgl hm (by rfl) ha (by decide) hdb hp
  | int => exact pe_biT (bi_int (Z := Z)) call_int1 hgl hm (by rfl) ha (by decide) hdb hp
  | tuple => exact pe_biT (bi_tuple (Z := Z)) (by rw [← c.hK]; exact call_tuple_of) hgl hm (by rfl) ha (by decide) hdb hp
  | list => exact pe_biT (bi_list (Z := Z)) (by rw [← c.hK]; exact call_list_of) hgl hm (by rfl) ha (by decide) hdb hp
  | setl => exact absurd rfl hf
  | str => exact pe_biT (bi_str (Z := Z)) call_str_int hgl hm (by rfl) ha (by decide) hdb hp
  | repr => exact pe_biB (bi_repr (Z := Z)) (by rw [← c.hK]; exact cr_repr (c.gd (hg rfl)) hu) hgl hm (by rfl) ha (by decide) hdb hp
end
end VM
set_option Elab.async false
set_option linter.all false
set_option maxRecDepth 100000
set_option maxHeartbeats 4000000
/-! VmZn: an expression that the check takes does as the code says. -/
namespace VM
open PySem PySem.Spec L2 LamX
section
variable {Z : Zed} {C : Cfg} {Φ : Phi} {k : Nat} {T : Tab} {N : List Str}
theorem evs_len : ∀ {as : Es} {g : Sco} {ts : List Expr}, chkEs T N as g ts = true → ts.all nostar = true → ∀ ρ w rs w', evs C Φ as ρ w = .ok rs w' → rs.length = ts.length
  | .nil, g, ts, h, _, ρ, w, rs, w', e => by
    cases ts with
    | nil => cases e; rfl
    | cons _ _ => exact (Bool.false_ne_true h).elim
  | .cons false a r, g, ts, h, hn, ρ, w, rs, w', e => by
    cases ts with
    | nil => exact (Bool.false_ne_true h).elim
    | cons t ts =>
      have h : (nostar t && (chkE T N a g t && chkEs T N r g ts)) = true := h
      simp only [Bool.and_eq_true] at h
      rw [List.all_cons, Bool.and_eq_true] at hn
      have e : (ev C Φ a ρ w).bind (fun u w => (evs C Φ r ρ w).bind fun us w => .ok (u :: us) w) = .ok rs w' := e
      cases h1 : ev C Φ a ρ w with
      | ok u w1 =>
        rw [h1, Res.bind_ok] at e
        cases h2 : evs C Φ r ρ w1 with
        | ok us w2 =>
          rw [h2] at e
          cases e
          rw [List.length_cons, List.length_cons, evs_len h.2.2 hn.2 _ _ _ _ h2]
        | exc er w2 => rw [h2] at e; cases e
        | bad => rw [h2] at e; cases e
      | exc er w1 => rw [h1] at e; cases e
      | bad => rw [h1] at e; cases e
  | .cons true a r, g, ts, h, hn, ρ, w, rs, w', e => by
    cases ts with
    | nil => exact (Bool.false_ne_true h).elim
    | cons t ts =>
      rw [List.all_cons, Bool.and_eq_true] at hn
      cases t <;> first | exact (Bool.false_ne_true h).elim | exact (Bool.false_ne_true hn.1).elim
theorem evk_len : ∀ {as : Es} {g : Sco} {ts : List Keyword}, chkKs T N as g ts = true → ∀ ρ w rs w', evs C Φ as ρ w = .ok rs w' → rs.length = ts.length
  | .nil, g, ts, h, ρ, w, rs, w', e => by
    cases ts with
    | nil => cases e; rfl
    | cons _ _ => exact (Bool.false_ne_true h).elim
  | .cons false a r, g, ts, h, ρ, w, rs, w', e => by
    cases ts with
    | nil => exact (Bool.false_ne_true h).elim
    | cons t ts =>
      have h : (chkE T N a g t.value && chkKs T N r g ts) = true := h
      simp only [Bool.and_eq_true] at h
      have e : (ev C Φ a ρ w).bind (fun u w => (evs C Φ r ρ w).bind fun us w => .ok (u :: us) w) = .ok rs w' := e
      cases h1 : ev C Φ a ρ w with
      | ok u w1 =>
        rw [h1, Res.bind_ok] at e
        cases h2 : evs C Φ r ρ w1 with
        | ok us w2 =>
          rw [h2] at e
          cases e
          rw [List.length_cons, List.length_cons, evk_len h.2 _ _ _ _ h2]
        | exc er w2 => rw [h2] at e; cases e
        | bad => rw [h2] at e; cases e
      | exc er w1 => rw [h1] at e; cases e
      | bad => rw [h1] at e; cases e
  | .cons true a r, g, ts, h, ρ, w, rs, w', e => (Bool.false_ne_true h).elim
theorem kw_some {pos : Pos} {env : Env} : ∀ {kws : List Keyword}, (kws.all (·.arg.isSome)) = true → ((backToKw pos (keywordEach kws env)).all (·.1.isSome) = true ∧ (backToKw pos (keywordEach kws env)).filterMap (·.1) = kws.filterMap (·.arg) ∧ (backToKw pos (keywordEach kws env)).any (·.1.isNone) = false) ∧ (kws.filterMap (·.arg)).length = kws.length
  | [], _ => ⟨⟨rfl, rfl, rfl⟩, rfl⟩
  | ⟨none, v, p⟩ :: r, h => by
    rw [List.all_cons] at h
    exact (Bool.false_ne_true h).elim
  | ⟨some y, v, p⟩ :: r, h => by
    rw [List.all_cons] at h
    have h : (true && r.all (·.arg.isSome)) = true := h
    rw [Bool.true_and] at h
    obtain ⟨⟨h1, h2, h3⟩, h4⟩ := kw_some (pos := pos) (env := env) h
    refine ⟨⟨?_, ?_, ?_⟩, ?_⟩
    · show (true && (backToKw pos (keywordEach r env)).all (·.1.isSome)) = true
      rw [h1]; rfl
    · show y :: (backToKw pos (keywordEach r env)).filterMap (·.1) = y :: r.filterMap (·.arg)
      rw [h2]
    · show (false || (backToKw pos (keywordEach r env)).any (·.1.isNone)) = false
      rw [h3]; rfl
    · show (r.filterMap (·.arg)).length + 1 = r.length + 1
      rw [h4]
/-- {} -/
theorem KE.newE {G0 E0 G H : Hp} {σ : L2.St} {ρ : En} {w : Dw} {Q : VK} (S : Stt Z G0 E0 G H σ ρ w) (h : KE Z G0 E0 G H σ ρ Q (.v .emp) w) {p : Addr} (hp : H p = none) : Q (.ref p) (upd H p (.dK [])) := by
  have gp := S.fresh hp
  have x : Nx G H (upd G p (.dK [])) (upd H p (.dK [])) := (Nx.alloc hp).freeze gp hp
  exact h _ _ _ x (S.next x (S.gl.alloc hp |>.freeze upd_same gp (fun _ z => by cases z) rfl)) (.emp upd_same)
theorem pe_emp {Wx : Value → Option Addr → Hp → Prop} {G0 E0 : Hp} {X : Cx} {pos : Pos} : PE X (.Dict [] [] pos) (SE Z Wx G0 E0 fun _ w => .ok (.v .emp) w) :=
  PE.imp pe_dnewK fun σ H Q ⟨G, ρ, w, S, k⟩ p hp => KE.newE S k hp
/-- a test that is draw["large"] != [] -/
theorem pt_dL {Wx : Value → Option Addr → Hp → Prop} {G0 E0 : Hp} {X : Cx} {i j : Nat} {x : Str} {p1 p2 p3 p4 pos : Pos} (hK : X.K = Z.K) (n : NmX X i x) (hu : X.A.units + 65 < cLine) : PT X (.Compare (.Subscript (.Name x p1) (.Constant (.str "large") j p2) pos) [.NotEq] [.List [] p3] p4) (ST Z Wx G0 E0 fun ρ w => if isDr ρ[i]? && w.on then .opt ((eqD (.lst w.large) (.lst [])).map fun b => .v (.bl (!b))) w else .bad) :=
  PT.imp (pt_cmpR (op_neD (by omega)) (pe_dget (by omega) (n.pe (p1 := p1)) pe_str noSl_str) (pe_li (Z := Z) (Wx := Wx) (G0 := G0) (E0 := E0) pa_n) rfl) fun σ H Q ⟨G, ρ, w, S, k⟩ => by
    dsimp only at k
    split at k
    · rename_i hd
      rw [Bool.and_eq_true] at hd
      obtain ⟨r, e, k⟩ := out_opt.mp k
      cases q : eqD (.lst w.large) (.lst []) with
      | none => rw [q] at e; cases e
      | some b =>
        rw [q] at e
        cases e
        obtain ⟨b', eb, k⟩ := k
        cases eb
        obtain ⟨p, q', e1, e2, s1, s2, rfl⟩ := eqD_some q
        obtain ⟨a, l, kvs, xs, vr, vc, vt, h1, g1, g2, g3, g4, h5, h6, h7, h8, h9, h10, h11, h12, h13, h14, h15⟩ := S.dr hd.1 hd.2
        refine ⟨_, h1, a, .ref l, rfl, by have := DGet.k (k := .inr "large") h5; rw [h7] at this; exact this, G, ρ, w, S, ?_⟩
        refine fun v G1 H1 x1 S1 r1 => ⟨p, q', ?_, by rw [hK]; exact r1.look S1.gl e2, s1, s2, _, rfl, k G1 H1 x1 S1⟩
        obtain ⟨a', l', kvs', xs', vr', vc', vt', j1, i1, i2, i3, i4, j5, j6, j7, j8, j9, j10, j11, j12, _⟩ := S1.dr hd.1 hd.2
        have el : l = l' := i4 _ (x1.g _ _ g2)
        subst el
        have e1 : (D.lst w.large).py = some p := e1
        simp only [D.py] at e1
        cases q2 : D.pys w.large with
        | none => rw [q2] at e1; cases e1
        | some ps =>
          rw [q2] at e1
          cases e1
          rw [hK]
          exact .lst (SqL.of j11) (S1.gl.dps (RpL.dp j12 q2))
    · exact k.elim
end
end VM
set_option Elab.async false
set_option linter.all false
set_option maxRecDepth 100000
set_option maxHeartbeats 4000000
/-! VmZo: an expression that the check takes does as the code says. -/
namespace VM
open PySem PySem.Spec L2 LamX
section
variable {Z : Zed} {C : Cfg} {Φ : Phi} {k : Nat} {T : Tab} {N : List Str}
abbrev BothE (Z : Zed) (C : Cfg) (Φ : Phi) (Wx : Value → Option Addr → Hp → Prop) (G0 E0 : Hp) (X : Cx) (a : Expr) (e : E) : Prop := PE X a (SE Z Wx G0 E0 (ev C Φ e)) ∧ PT X a (ST Z Wx G0 E0 (ev C Φ e))
mutual
theorem sE (t : TabOk Z C Φ k T) : ∀ (e : E) {g : Sco} {X : Cx} {Wx : Value → Option Addr → Hp → Prop} {G0 E0 : Hp} {a : Expr}, FC Z k g.gu Wx X g.sc N → (g.la = true → FX Z k X) → chkE T N e g a = true → BothE Z C Φ Wx G0 E0 X a e
  | .k d, g, X, Wx, G0, E0, a, c, fx, h => by
    simp only [chkE] at h
    split at h <;> first | exact (Bool.false_ne_true h).elim | skip
    · rename_i cc j p
      split at h <;> first | exact (Bool.false_ne_true h).elim | skip
      rename_i d' e
      have := sameD_eq h
      subst this
      cases cc <;> cases e
      · exact both c (pe_val pe_non fun G => .non) fun _ => rfl
      · exact both c (pe_val pe_bl fun G => .bl _) fun _ => rfl
      · exact both c (pe_val pe_int fun G => .int _) fun _ => rfl
      · exact both c (pe_val pe_str fun G => .str _) fun _ => rfl
    · rename_i x p
      rw [Bool.and_eq_true] at h
      obtain ⟨h1, h⟩ := h
      split at h <;> first | exact (Bool.false_ne_true h).elim | skip
      rename_i d' e
      have := sameD_eq h
      subst this
      obtain ⟨v, u, m, r, rp⟩ := t.con _ _ e
      obtain ⟨hg, hd⟩ := gl_of c h1
      exact both c (pe_gk hg (by rw [c.hm]; exact m) r hd rp) fun _ => rfl
  | .emp, g, X, Wx, G0, E0, a, c, fx, h => by
    simp only [chkE] at h
    split at h <;> first | exact (Bool.false_ne_true h).elim | skip
    exact both c pe_emp fun _ => rfl
  | .x i, g, X, Wx, G0, E0, a, c, fx, h => by
    simp only [chkE] at h
    split at h <;> first | exact (Bool.false_ne_true h).elim | skip
    have n := nm_of c h
    exact both c (pe_x n.hx n.hv n.hd n.hcd) fun _ => rfl
  | .bin o a b, g, X, Wx, G0, E0, ex, c, fx, h => by
    simp only [chkE] at h
    split at h <;> first | exact (Bool.false_ne_true h).elim | skip
    simp only [Bool.and_eq_true, decide_eq_true_eq] at h
    obtain ⟨rfl, h1, h2⟩ := h
    exact both c (pe_bop c.hK (sE t a c fx h1).1 (sE t b c fx h2).1) fun _ => rfl
  | .neg a, g, X, Wx, G0, E0, ex, c, fx, h => by
    simp only [chkE] at h
    split at h <;> first | exact (Bool.false_ne_true h).elim | skip
    exact both c (pe_ng (sE t a c fx h).1) fun _ => rfl
  | .not a, g, X, Wx, G0, E0, ex, c, fx, h => by
    simp only [chkE] at h
    split at h <;> first | exact (Bool.false_ne_true h).elim | skip
    exact ⟨pe_nt c.hK (sE t a c fx h).1, pt_nt (sE t a c fx h).2⟩
  | .cmp o a b, g, X, Wx, G0, E0, ex, c, fx, h => by
    simp only [chkE] at h
    split at h <;> first | exact (Bool.false_ne_true h).elim | skip
    simp only [Bool.and_eq_true, decide_eq_true_eq, Bool.not_eq_true'] at h
    obtain ⟨⟨rfl, hm⟩, h1, h2⟩ := h
    exact ⟨pe_cop c.hK (un_of c) (sE t a c fx h1).1 (sE t b c fx h2).1 hm, pt_cop c.hK (un_of c) (sE t a c fx h1).1 (sE t b c fx h2).1 hm⟩
  | .ch2 o q a b d, g, X, Wx, G0, E0, ex, c, fx, h => by
    simp only [chkE] at h
    split at h <;> first | exact (Bool.false_ne_true h).elim | skip
    simp only [Bool.and_eq_true, decide_eq_true_eq, Bool.not_eq_true'] at h
    obtain ⟨⟨⟨rfl, rfl⟩, hm⟩, h1, h2, h3⟩ := h
    exact ⟨pe_ch2 c.hK (un_of c) (sE t a c fx h1).1 (sE t b c fx h2).1 (sE t d c fx h3).1 hm, pt_ch2 c.hK (un_of c) (sE t a c fx h1).1 (sE t b c fx h2).1 (sE t d c fx h3).1 hm⟩
  | .boo kk es, g, X, Wx, G0, E0, ex, c, fx, h => by
    simp only [chkE] at h
    split at h <;> first | exact (Bool.false_ne_true h).elim | skip
    simp only [Bool.and_eq_true, decide_eq_true_eq] at h
    rename_i op vs pos
    obtain ⟨rfl, h1⟩ := h
    have := sB t kk es (pos := pos) (G0 := G0) (E0 := E0) c fx h1
    exact ⟨this.1, this.2.pt⟩
  | .ife a b d, g, X, Wx, G0, E0, ex, c, fx, h => by
    simp only [chkE] at h
    split at h <;> first | exact (Bool.false_ne_true h).elim | skip
    simp only [Bool.and_eq_true] at h
    obtain ⟨h1, h2, h3⟩ := h
    exact ⟨pe_if (sE t a c fx h1).2 (sE t b c fx h2).1 (sE t d c fx h3).1, pt_if (sE t a c fx h1).2 (sE t b c fx h2).2 (sE t d c fx h3).2⟩
  | .call f as, g, X, Wx, G0, E0, ex, c, fx, h => by
    simp only [chkE] at h
    split at h <;> first | exact (Bool.false_ne_true h).elim | skip
    rename_i x p args pos
    simp only [Bool.and_eq_true] at h
    obtain ⟨⟨⟨h1, h2⟩, h3⟩, h4⟩ := h
    obtain ⟨hg, hd⟩ := gl_of c h1
    split at h2 <;> first | exact (Bool.false_ne_true h2).elim | skip
    rename_i e he
    simp only [Bool.and_eq_true, decide_eq_true_eq, Bool.or_eq_true, Bool.not_eq_true'] at h2
    obtain ⟨⟨rfl, hgu⟩, hl⟩ := h2
    have gi : e.gu = true → g.gu = true := fun z => by
      rcases hgu with q | q
      · rw [z] at q; cases q
      · exact q
    have ha := sEs t as (G0 := G0) (E0 := E0) c fx h4
    cases args with
    | nil =>
      cases as with
      | nil => exact both c (pe_callF0 c gi (t.fn f e he) hg (List.length_eq_zero_iff.mp hl.symm) hd) fun _ => rfl
      | cons s a r => cases s <;> exact (Bool.false_ne_true h4).elim
    | cons a0 as0 => exact both c (pe_callF c gi (t.fn f e he) hg ha (nss_of h3) hl (evs_len h4 h3) hd) fun _ => rfl
  | .callk f as ks ord, g, X, Wx, G0, E0, ex, c, fx, h => by
    simp only [chkE] at h
    split at h <;> first | exact (Bool.false_ne_true h).elim | skip
    rename_i x p args kws pos
    simp only [Bool.and_eq_true] at h
    obtain ⟨⟨⟨⟨h1, h2⟩, h3⟩, h4⟩, h5, h6⟩ := h
    obtain ⟨hg, hd⟩ := gl_of c h1
    split at h2 <;> first | exact (Bool.false_ne_true h2).elim | skip
    rename_i e he
    simp only [Bool.and_eq_true, decide_eq_true_eq, Bool.or_eq_true, Bool.not_eq_true'] at h2
    obtain ⟨⟨⟨rfl, hgu⟩, hl⟩, hkt⟩ := h2
    have gi : e.gu = true → g.gu = true := fun z => by
      rcases hgu with q | q
      · rw [z] at q; cases q
      · exact q
    obtain ⟨⟨k1, k2, k3⟩, k4⟩ := kw_some (pos := pos) (env := X.env) h3
    refine both c (pe_callk c gi (t.fn f e he) hkt hg (sEs t as c fx h5) (sKs t ks c fx h6) k1 k2 k3 (nss_of h4) hl (evs_len h5 h4) (fun ρ w rs w' q => by rw [k4]; exact evk_len h6 ρ w rs w' q) rfl hd fun z => ?_) fun _ => rfl
    subst z
    cases as with
    | nil => rfl
    | cons s a r => cases s <;> exact (Bool.false_ne_true h5).elim
  | .callx i as, g, X, Wx, G0, E0, ex, c, fx, h => by
    simp only [chkE] at h
    split at h <;> first | exact (Bool.false_ne_true h).elim | skip
    rename_i x p args pos
    simp only [Bool.and_eq_true] at h
    obtain ⟨⟨⟨h1, h2⟩, h3⟩, h4⟩ := h
    cases args with
    | nil => exact (Bool.false_ne_true h2).elim
    | cons a0 as0 => exact both c (pe_callx c t.cx (nm_of c h1) (sEs t as c fx h4) (nss_of h3)) fun _ => rfl
  | .bi f as, g, X, Wx, G0, E0, ex, c, fx, h => by
    simp only [chkE] at h
    split at h <;> first | exact (Bool.false_ne_true h).elim | skip
    rename_i x p args pos
    simp only [Bool.and_eq_true] at h
    obtain ⟨h1, h2⟩ := h
    obtain ⟨hg, hd⟩ := gl_of c h1
    split at h2
    · simp only [Bool.and_eq_true, decide_eq_true_eq] at h2
      obtain ⟨rfl, h2⟩ := h2
      split at h2 <;> first | exact (Bool.false_ne_true h2).elim | skip
      rename_i y p2 a q
      simp only [Bool.and_eq_true, decide_eq_true_eq] at h2
      obtain ⟨⟨⟨h3, rfl⟩, h4⟩, h5⟩ := h2
      obtain ⟨hg2, hd2⟩ := gl_of c h3
      cases as with
      | nil => exact (Bool.false_ne_true h5).elim
      | cons s e r =>
        cases s with
        | true => cases a <;> first | exact (Bool.false_ne_true h5).elim | exact (Bool.false_ne_true h4).elim
        | false =>
          have h5 : (nostar a && (chkE T N e g a && chkEs T N r g [])) = true := h5
          simp only [Bool.and_eq_true] at h5
          cases r with
          | nil => exact both c (pe_setl c.hK c.calm hg (mg_no c t (by decide)) hg2 (mg_no c t (by decide)) (sE t e c fx h5.2.1).1 (ns_of h4)) fun _ => rfl
          | cons s2 e2 r2 => cases s2 <;> exact (Bool.false_ne_true h5.2.2).elim
    · rename_i hf
      simp only [Bool.and_eq_true, decide_eq_true_eq, Bool.or_eq_true, Bool.not_eq_true', decide_eq_false_iff_not] at h2
      obtain ⟨⟨⟨⟨hx, hgu⟩, hne⟩, h3⟩, h4⟩ := h2
      cases args with
      | nil => exact (Bool.false_ne_true hne.symm).elim
      | cons a0 as0 => exact both c (pe_bi c t hf (fun z => by rcases hgu with q | q; exact absurd z q; exact q) hx hg hd (sEs t as c fx h4) (nss_of h3)) fun _ => rfl
  | .tup es, g, X, Wx, G0, E0, ex, c, fx, h => by
    simp only [chkE] at h
    split at h <;> first | exact (Bool.false_ne_true h).elim | skip
    exact both c (pe_tu (sEs t es c fx h)) fun _ => rfl
  | .lst es, g, X, Wx, G0, E0, ex, c, fx, h => by
    simp only [chkE] at h
    split at h <;> first | exact (Bool.false_ne_true h).elim | skip
    exact both c (pe_li (sEs t es c fx h)) fun _ => rfl
  | .lc e p s tt own, g, X, Wx, G0, E0, ex, c, fx, h => by
    simp only [chkE] at h
    split at h <;> first | exact (Bool.false_ne_true h).elim | skip
    rename_i elt tg iter ifs asy scope pos
    simp only [Bool.and_eq_true, decide_eq_true_eq] at h
    obtain ⟨⟨⟨⟨⟨rfl, h1⟩, h2⟩, h3⟩, h4⟩, h5, h6, h7⟩ := h
    have key := pe_lcA (Wx := Wx) (G0 := G0) (E0 := E0) (pos := pos) (elt := elt) (f := ev C Φ e) (fT := evT C Φ tt) (p := p) c.calm (by rw [c.hN]; exact c.nd) (sS t s (tg := tg) c fx h5) (blk_of c h1) (fun s H D cl fp => pg_ptB (fc_blk c) (fun x hx => beq_iff_eq.mpr hx) h2)
      (fun s H D cl fp => sT t tt (g := ⟨false, g.gu, relS scope g.sc⟩) (fc_blk c) (fun z => by cases z) h6) (fun s H D cl fp => (sE t e (g := ⟨false, g.gu, relS scope g.sc⟩) (fc_blk c) (fun z => by cases z) h7).1) (fold_of h4)
      (fun i hi => by rw [own_snd]; simpa using List.all_eq_true.mp h3 i hi)
    rw [own_snd] at key
    exact both c key fun _ => rfl
  | .ix a i, g, X, Wx, G0, E0, ex, c, fx, h => by
    simp only [chkE] at h
    split at h <;> first | exact (Bool.false_ne_true h).elim | skip
    simp only [Bool.and_eq_true] at h
    obtain ⟨h1, h2, h3⟩ := h
    exact both c (pe_ixA c.hK (sE t a c fx h2).1 (sE t i c fx h3).1 (plain_of h1)) fun _ => rfl
  | .sl a lo hi, g, X, Wx, G0, E0, ex, c, fx, h => by
    simp only [chkE] at h
    split at h <;> first | exact (Bool.false_ne_true h).elim | skip
    simp only [Bool.and_eq_true] at h
    obtain ⟨h1, h2, h3⟩ := h
    exact both c (pe_slA c.hK (sE t a c fx h1).1 (sO t lo c fx h2) (sO t hi c fx h3)) fun _ => rfl
  | .rv a, g, X, Wx, G0, E0, ex, c, fx, h => by
    simp only [chkE] at h
    split at h <;> first | exact (Bool.false_ne_true h).elim | skip
    simp only [Bool.and_eq_true, decide_eq_true_eq] at h
    obtain ⟨rfl, h1⟩ := h
    exact both c (pe_rvs c.hK (sE t a c fx h1).1) fun _ => rfl
  | .sq kk s, g, X, Wx, G0, E0, ex, c, fx, h => by
    simp only [chkE] at h
    split at h <;> first | exact (Bool.false_ne_true h).elim | skip
    rename_i x p y p2 args pos2 pos
    simp only [Bool.and_eq_true, decide_eq_true_eq] at h
    obtain ⟨⟨⟨⟨⟨h1, h2⟩, rfl⟩, rfl⟩, h3⟩, h4⟩ := h
    obtain ⟨hg, hd⟩ := gl_of c h1
    obtain ⟨hg2, hd2⟩ := gl_of c h2
    have hm : X.mg (if kk then "tuple" else "list") = none := by cases kk <;> exact mg_no c t (by decide)
    have hm2 : X.mg "range" = none := mg_no c t (by decide)
    exact both c (sR t kk s c fx h4 h3 hg hm hg2 hm2) fun _ => rfl
  | .fld a n, g, X, Wx, G0, E0, ex, c, fx, h => by
    simp only [chkE] at h
    split at h <;> first | exact (Bool.false_ne_true h).elim | skip
    simp only [Bool.and_eq_true, decide_eq_true_eq] at h
    obtain ⟨rfl, h1⟩ := h
    rename_i y p m pos
    have e : C.fldN = Z.fldN := t.fldN
    have := pe_fld (Z := Z) (Wx := Wx) (G0 := G0) (E0 := E0) (pos := pos) (n := m) c.hK (t.fld m) (sE t a (G0 := G0) (E0 := E0) c fx h1).1 rfl
    rw [← e] at this
    exact both c this fun _ => rfl
  | .isi a ty, g, X, Wx, G0, E0, ex, c, fx, h => by
    simp only [chkE] at h
    split at h <;> first | exact (Bool.false_ne_true h).elim | skip
    simp only [Bool.and_eq_true, decide_eq_true_eq] at h
    obtain ⟨⟨⟨⟨⟨h1, rfl⟩, h2⟩, h3⟩, h4⟩, h5⟩ := h
    obtain ⟨hg, hd⟩ := gl_of c h1
    obtain ⟨hg2, hd2⟩ := gl_of c h2
    obtain ⟨cv, u, ti, r, q⟩ := t.ty _ _ h4
    refine both c (pe_isi ti c.hK hg (mg_no c t (by decide)) (sE t a c fx h5).1 ?_ (ns_of h3)) fun _ => rfl
    rcases q with q | ⟨q1, q2, q3⟩
    · exact pe_glob hg2 (by rw [c.hm]; exact q) r hd2
    · exact pe_bltn hg2 (by rw [c.hm]; exact q1) q2 r q3 hd2
  | .caught e, g, X, Wx, G0, E0, ex, c, fx, h => by
    simp only [chkE] at h
    split at h <;> first | exact (Bool.false_ne_true h).elim | skip
    rename_i x p ps body scope lpos pos
    simp only [Bool.and_eq_true, decide_eq_true_eq] at h
    obtain ⟨⟨⟨⟨⟨⟨h1, h2⟩, rfl⟩, h3⟩, h4⟩, h5⟩, h6⟩ := h
    obtain ⟨hg, hd⟩ := gl_of c h2
    have hp : ps = ⟨[], [], none, [], [], none, []⟩ := by
      unfold noPar at h4
      split at h4
      · rfl
      · cases h4
    subst hp
    exact both c (pe_caught c (fx h1) (t.cau h3) hg (by rw [c.hsc]; exact lamS_by h5) hd fun A outer s H E f c' cl G1 E1 => (sE t e (g := ⟨false, false, scope⟩) cl (fun z => by cases z) h6).1) fun _ => rfl
  | .dG i f, g, X, Wx, G0, E0, ex, c, fx, h => by
    simp only [chkE] at h
    split at h <;> first | exact (Bool.false_ne_true h).elim | skip
    simp only [Bool.and_eq_true, decide_eq_true_eq] at h
    obtain ⟨h1, rfl⟩ := h
    exact both c (pe_dG (nm_of c h1) (un_of c)) fun _ => rfl
  | .dL i, g, X, Wx, G0, E0, ex, c, fx, h => by
    simp only [chkE] at h
    split at h <;> first | exact (Bool.false_ne_true h).elim | skip
    simp only [Bool.and_eq_true, decide_eq_true_eq] at h
    obtain ⟨h1, rfl⟩ := h
    exact ⟨pe_dL c.hK (nm_of c h1) (un_of c), pt_dL c.hK (nm_of c h1) (un_of c)⟩
  | .dP i, g, X, Wx, G0, E0, ex, c, fx, h => by
    simp only [chkE] at h
    split at h <;> first | exact (Bool.false_ne_true h).elim | skip
    simp only [Bool.and_eq_true, decide_eq_true_eq] at h
    obtain ⟨⟨⟨⟨h1, rfl⟩, rfl⟩, rfl⟩, h2⟩ := h
    exact both c (pe_dP (nm_of c h1) (un_of c) h2) fun _ => rfl
theorem sEs (t : TabOk Z C Φ k T) : ∀ (es : Es) {g : Sco} {X : Cx} {Wx : Value → Option Addr → Hp → Prop} {G0 E0 : Hp} {ts : List Expr}, FC Z k g.gu Wx X g.sc N → (g.la = true → FX Z k X) → chkEs T N es g ts = true → PA X ts (SA Z Wx G0 E0 (evs C Φ es))
  | .nil, g, X, Wx, G0, E0, ts, c, fx, h => by
    cases ts with
    | nil => exact pa_n
    | cons _ _ => exact (Bool.false_ne_true h).elim
  | .cons false e r, g, X, Wx, G0, E0, ts, c, fx, h => by
    cases ts with
    | nil => exact (Bool.false_ne_true h).elim
    | cons a ts =>
      have h : (nostar a && (chkE T N e g a && chkEs T N r g ts)) = true := h
      simp only [Bool.and_eq_true] at h
      exact pa_c (sE t e c fx h.2.1).1 (sEs t r c fx h.2.2) (ns_of h.1)
  | .cons true e r, g, X, Wx, G0, E0, ts, c, fx, h => by
    cases ts with
    | nil => exact (Bool.false_ne_true h).elim
    | cons a ts =>
      cases a <;> first | exact (Bool.false_ne_true h).elim | skip
      rename_i a p
      have h : (chkE T N e g a && chkEs T N r g ts) = true := h
      simp only [Bool.and_eq_true] at h
      exact pa_s c.hK (sE t e c fx h.1).1 (sEs t r c fx h.2)
theorem sKs (t : TabOk Z C Φ k T) : ∀ (es : Es) {g : Sco} {X : Cx} {Wx : Value → Option Addr → Hp → Prop} {G0 E0 : Hp} {ts : List Keyword}, FC Z k g.gu Wx X g.sc N → (g.la = true → FX Z k X) → chkKs T N es g ts = true → PK X ts (SA Z Wx G0 E0 (evs C Φ es))
  | .nil, g, X, Wx, G0, E0, ts, c, fx, h => by
    cases ts with
    | nil => exact pk_n Z Wx G0 E0
    | cons _ _ => exact (Bool.false_ne_true h).elim
  | .cons false e r, g, X, Wx, G0, E0, ts, c, fx, h => by
    cases ts with
    | nil => exact (Bool.false_ne_true h).elim
    | cons a ts =>
      obtain ⟨nm, a, kp⟩ := a
      have h : (chkE T N e g a && chkKs T N r g ts) = true := h
      simp only [Bool.and_eq_true] at h
      exact pk_c (sE t e c fx h.1).1 (sKs t r c fx h.2)
  | .cons true e r, g, X, Wx, G0, E0, ts, c, fx, h => (Bool.false_ne_true h).elim
theorem sB (t : TabOk Z C Φ k T) (kk : Bool) : ∀ (es : Es) {g : Sco} {X : Cx} {Wx : Value → Option Addr → Hp → Prop} {G0 E0 : Hp} {ts : List Expr} {pos : Pos}, FC Z k g.gu Wx X g.sc N → (g.la = true → FX Z k X) → chkB T N es g ts = true →
    PE X (.BoolOp (booA kk) ts pos) (SE Z Wx G0 E0 (evB C Φ kk es)) ∧ PW X (.BoolOp (booA kk) ts pos) (ST Z Wx G0 E0 (evB C Φ kk es))
  | .nil, g, X, Wx, G0, E0, ts, pos, c, fx, h => (Bool.false_ne_true h).elim
  | .cons s e r, g, X, Wx, G0, E0, ts, pos, c, fx, h => by
    cases ts with
    | nil => exact (Bool.false_ne_true h).elim
    | cons a ts =>
      cases ts with
      | nil =>
        have h : (isNil r && chkE T N e g a) = true := h
        simp only [Bool.and_eq_true] at h
        cases r with
        | cons _ _ _ => exact (Bool.false_ne_true h.1).elim
        | nil => exact ⟨pe_boo1 (sE t e c fx h.2).1, pw_boo1 (sE t e c fx h.2).2⟩
      | cons b rest =>
        have h : (chkE T N e g a && chkB T N r g (b :: rest)) = true := h
        simp only [Bool.and_eq_true] at h
        cases r with
        | nil => exact (Bool.false_ne_true h.2).elim
        | cons s2 e2 r2 =>
          have q := sB t kk (.cons s2 e2 r2) (pos := pos) (G0 := G0) (E0 := E0) c fx h.2
          exact ⟨pe_booS c.hK (sE t e c fx h.1).1 q.1, pw_booS (sE t e c fx h.1).2 q.2⟩
theorem sO (t : TabOk Z C Φ k T) : ∀ (o : Eo) {g : Sco} {X : Cx} {Wx : Value → Option Addr → Hp → Prop} {G0 E0 : Hp} {a : Option Expr}, FC Z k g.gu Wx X g.sc N → (g.la = true → FX Z k X) → chkO T N o g a = true → PO X a (SO Z Wx G0 E0 (evO C Φ o))
  | .no, g, X, Wx, G0, E0, a, c, fx, h => by
    cases a with
    | none => exact po_n
    | some _ => exact (Bool.false_ne_true h).elim
  | .so e, g, X, Wx, G0, E0, a, c, fx, h => by
    cases a with
    | none => exact (Bool.false_ne_true h).elim
    | some a => exact po_s (sE t e c fx h).1
theorem sT (t : TabOk Z C Φ k T) : ∀ (o : Eo) {g : Sco} {X : Cx} {Wx : Value → Option Addr → Hp → Prop} {G0 E0 : Hp} {ts : List Expr}, FC Z k g.gu Wx X g.sc N → (g.la = true → FX Z k X) → chkT T N o g ts = true → PTs X ts (SB Z Wx G0 E0 (evT C Φ o))
  | .no, g, X, Wx, G0, E0, ts, c, fx, h => by
    cases ts with
    | nil => exact pts_n
    | cons _ _ => exact (Bool.false_ne_true h).elim
  | .so e, g, X, Wx, G0, E0, ts, c, fx, h => by
    cases ts with
    | nil => exact (Bool.false_ne_true h).elim
    | cons a ts =>
      cases ts with
      | nil => exact pts_s (sE t e c fx h).2
      | cons _ _ => exact (Bool.false_ne_true h).elim
theorem sS (t : TabOk Z C Φ k T) : ∀ (s : Src) {g : Sco} {X : Cx} {Wx : Value → Option Addr → Hp → Prop} {G0 E0 : Hp} {tg a : Expr}, FC Z k g.gu Wx X g.sc N → (g.la = true → FX Z k X) → chkS T N s g tg a = true → PI X tg a (SI Z Wx G0 E0 (evS C Φ s))
  | .e e, g, X, Wx, G0, E0, tg, a, c, fx, h => pi_e c.hK (sE t e c fx h).1
  | .rng as, g, X, Wx, G0, E0, tg, a, c, fx, h => by
    simp only [chkS] at h
    split at h <;> first | exact (Bool.false_ne_true h).elim | skip
    simp only [Bool.and_eq_true, decide_eq_true_eq] at h
    obtain ⟨⟨⟨⟨h1, rfl⟩, h2⟩, h3⟩, h4⟩ := h
    exact pi_rng (evs_len h4 h2) h3 (gl_of c h1).1 (mg_no c t (by decide)) (sEs t as c fx h4) (nss_of h2)
  | .en e o, g, X, Wx, G0, E0, tg, a, c, fx, h => by
    cases o with
    | so e2 => exact (Bool.false_ne_true h).elim
    | no =>
      simp only [chkS] at h
      split at h <;> first | exact (Bool.false_ne_true h).elim | skip
      simp only [Bool.and_eq_true, decide_eq_true_eq] at h
      obtain ⟨⟨⟨⟨h1, rfl⟩, h2⟩, h3⟩, h4⟩ := h
      cases tg <;> first | exact (Bool.false_ne_true h3).elim | skip
      exact pi_en c.hK (gl_of c h1).1 (mg_no c t (by decide)) (sE t e c fx h4).1 (ns_of h2)
  | .zp e e2, g, X, Wx, G0, E0, tg, a, c, fx, h => by
    simp only [chkS] at h
    split at h <;> first | exact (Bool.false_ne_true h).elim | skip
    simp only [Bool.and_eq_true, decide_eq_true_eq] at h
    obtain ⟨⟨⟨⟨⟨h1, rfl⟩, h2⟩, h3⟩, h4⟩, h5, h6⟩ := h
    cases tg <;> first | exact (Bool.false_ne_true h4).elim | skip
    exact pi_zp c.hK (gl_of c h1).1 (mg_no c t (by decide)) (sE t e c fx h5).1 (sE t e2 c fx h6).1 (ns_of h2) (ns_of h3)
  | .zpr e bs, g, X, Wx, G0, E0, tg, a, c, fx, h => by
    simp only [chkS] at h
    split at h <;> first | exact (Bool.false_ne_true h).elim | skip
    simp only [Bool.and_eq_true, decide_eq_true_eq] at h
    obtain ⟨⟨⟨⟨⟨⟨⟨⟨h1, rfl⟩, h2⟩, h3⟩, h4⟩, rfl⟩, h5⟩, h6⟩, h7, h8⟩ := h
    cases tg <;> first | exact (Bool.false_ne_true h3).elim | skip
    have hg := (gl_of c h1).1
    have hg2 := (gl_of c h4).1
    have hm : X.mg "zip" = none := mg_no c t (by decide)
    have hm2 : X.mg "range" = none := mg_no c t (by decide)
    have he := (sE t e (G0 := G0) (E0 := E0) c fx h7).1
    rename_i _ _ _ _ args _ _ _ _ _
    cases args with
    | nil => rcases h6 with z | z <;> cases z
    | cons a1 args =>
      rw [List.all_cons, Bool.and_eq_true] at h5
      cases bs with
      | nil => exact (Bool.false_ne_true h8).elim
      | cons s1 e1 r1 =>
        cases s1 with
        | true => cases a1 <;> first | exact (Bool.false_ne_true h8).elim | exact (Bool.false_ne_true h5.1).elim
        | false =>
          have h8 : (nostar a1 && (chkE T N e1 g a1 && chkEs T N r1 g args)) = true := h8
          simp only [Bool.and_eq_true] at h8
          have he1 := (sE t e1 (G0 := G0) (E0 := E0) c fx h8.2.1).1
          cases args with
          | nil =>
            cases r1 with
            | nil => exact pi_zpr1 (e3 := a1) c.hK hg hm hg2 hm2 he he1 (ns_of h2) (ns_of h5.1)
            | cons s2 e2 r2 => cases s2 <;> exact (Bool.false_ne_true h8.2.2).elim
          | cons a2 args =>
            rw [List.all_cons, Bool.and_eq_true] at h5
            cases r1 with
            | nil => exact (Bool.false_ne_true h8.2.2).elim
            | cons s2 e2 r2 =>
              cases s2 with
              | true => cases a2 <;> first | exact (Bool.false_ne_true h8.2.2).elim | exact (Bool.false_ne_true h5.2.1).elim
              | false =>
                have h9 : (nostar a2 && (chkE T N e2 g a2 && chkEs T N r2 g args)) = true := h8.2.2
                simp only [Bool.and_eq_true] at h9
                have he2 := (sE t e2 (G0 := G0) (E0 := E0) c fx h9.2.1).1
                have ha : args = [] := by
                  rcases h6 with z | z
                  · cases z
                  · exact List.length_eq_zero_iff.mp (by simpa using z)
                subst ha
                cases r2 with
                | nil => exact pi_zpr2 c.hK hg hm hg2 hm2 he he1 he2 (ns_of h2) (ns_of h5.1) (ns_of h5.2.1)
                | cons s3 e3 r3 => cases s3 <;> exact (Bool.false_ne_true h9.2.2).elim
  | .rv e, g, X, Wx, G0, E0, tg, a, c, fx, h => (Bool.false_ne_true h).elim
theorem sR (t : TabOk Z C Φ k T) (kk : Bool) : ∀ (s : Src) {g : Sco} {X : Cx} {Wx : Value → Option Addr → Hp → Prop} {G0 E0 : Hp} {args : List Expr} {p p2 pos pos2 : Pos}, FC Z k g.gu Wx X g.sc N → (g.la = true → FX Z k X) → chkR T N s g args = true → args.all nostar = true → Gl X (if kk then "tuple" else "list") → X.mg (if kk then "tuple" else "list") = none → Gl X "range" → X.mg "range" = none →
    PE X (.Call (.Name (if kk then "tuple" else "list") p) [.Call (.Name "range" p2) args [] pos2] [] pos) (SE Z Wx G0 E0 (ev C Φ (.sq kk s)))
  | .rng bs, g, X, Wx, G0, E0, args, p, p2, pos, pos2, c, fx, h, h5, hg, hm, hg2, hm2 => by
    have h : (decide (args.length = 1 ∨ args.length = 2) && chkEs T N bs g args) = true := h
    simp only [Bool.and_eq_true, decide_eq_true_eq] at h
    obtain ⟨h6, h8⟩ := h
    cases args with
    | nil => rcases h6 with z | z <;> cases z
    | cons a1 args =>
      rw [List.all_cons, Bool.and_eq_true] at h5
      cases bs with
      | nil => exact (Bool.false_ne_true h8).elim
      | cons s1 e1 r1 =>
        cases s1 with
        | true => cases a1 <;> first | exact (Bool.false_ne_true h8).elim | exact (Bool.false_ne_true h5.1).elim
        | false =>
          have h8 : (nostar a1 && (chkE T N e1 g a1 && chkEs T N r1 g args)) = true := h8
          simp only [Bool.and_eq_true] at h8
          have he1 := (sE t e1 (G0 := G0) (E0 := E0) c fx h8.2.1).1
          cases args with
          | nil =>
            cases r1 with
            | nil => exact pe_sq1 c.calm hg hm hg2 hm2 he1 (ns_of h5.1)
            | cons s2 e2 r2 => cases s2 <;> exact (Bool.false_ne_true h8.2.2).elim
          | cons a2 args =>
            rw [List.all_cons, Bool.and_eq_true] at h5
            cases r1 with
            | nil => exact (Bool.false_ne_true h8.2.2).elim
            | cons s2 e2 r2 =>
              cases s2 with
              | true => cases a2 <;> first | exact (Bool.false_ne_true h8.2.2).elim | exact (Bool.false_ne_true h5.2.1).elim
              | false =>
                have h9 : (nostar a2 && (chkE T N e2 g a2 && chkEs T N r2 g args)) = true := h8.2.2
                simp only [Bool.and_eq_true] at h9
                have he2 := (sE t e2 (G0 := G0) (E0 := E0) c fx h9.2.1).1
                have ha : args = [] := by
                  rcases h6 with z | z
                  · cases z
                  · exact List.length_eq_zero_iff.mp (by simpa using z)
                subst ha
                cases r2 with
                | nil => exact pe_sq2 c.calm hg hm hg2 hm2 he1 he2 (ns_of h5.1) (ns_of h5.2.1)
                | cons s3 e3 r3 => cases s3 <;> exact (Bool.false_ne_true h9.2.2).elim
  | .e _, _, _, _, _, _, _, _, _, _, _, _, _, h, _, _, _, _, _ => (Bool.false_ne_true h).elim
  | .en _ _, _, _, _, _, _, _, _, _, _, _, _, _, h, _, _, _, _, _ => (Bool.false_ne_true h).elim
  | .zp _ _, _, _, _, _, _, _, _, _, _, _, _, _, h, _, _, _, _, _ => (Bool.false_ne_true h).elim
  | .zpr _ _, _, _, _, _, _, _, _, _, _, _, _, _, h, _, _, _, _, _ => (Bool.false_ne_true h).elim
  | .rv _, _, _, _, _, _, _, _, _, _, _, _, _, h, _, _, _, _, _ => (Bool.false_ne_true h).elim
end
end
end VM
set_option Elab.async false
set_option linter.all false
set_option maxRecDepth 100000
set_option maxHeartbeats 4000000
/-! VmZp: the check of statements: what it asks; swapped stores. -/
namespace VM
open PySem PySem.Spec L2 LamX
def noSD : Expr → Bool
  | .SetComp _ _ _ _ => false
  | .DictComp _ _ _ _ _ => false
  | _ => true
/-- [..] assigned to a plain local on its line -/
def swB (sc : Scope) (tg e : Expr) : Bool := match e with
  | .ListComp _ _ s pos => (match tg with
    | .Name t p => (sc.names.lookup t == some .local) && (p.line == pos.line) && !(s.names.any fun (n, k) => n == t && (k == .local || k == .cell))
    | _ => false)
  | _ => false
theorem band4 (a b c d : Bool) (h : (b && c && d) = false) : (a && b && c && d) = false := by
  cases a
  · rfl
  · rw [Bool.true_and]; exact h
theorem sw_false {sc : Scope} {tg e : Expr} {l : Nat} {env : Env} (hs : env.scope = sc) (h1 : noSD e = true) (h2 : swB sc tg e = false) : swapsWithSole [tg] e l env = pure false := by
  show swapsWith e (some tg) l env = pure false
  cases e <;> first | rfl | exact (Bool.false_ne_true h1).elim | skip
  rename_i elt gs s pos
  cases tg <;> first | rfl | skip
  rename_i t p
  have h2 : ((sc.names.lookup t == some .local) && (p.line == pos.line) && !(s.names.any fun (n, k) => n == t && (k == .local || k == .cell))) = false := h2
  show (pure (env.blockKind == .function && env.kindOf t == some .local && (p.line == pos.line) && !(s.names.any fun (n, k) => n == t && (k == .local || k == .cell))) : Sem Bool) = pure false
  have e1 : (env.kindOf t == some .local) = (sc.names.lookup t == some .local) := by
    show (env.scope.names.lookup t == some .local) = _
    rw [hs]
  rw [e1, band4 _ _ _ _ h2]
def stars (vs : List Expr) : Bool := vs.any fun | .Starred .. => true | _ => false
def stNames (sc : Scope) (ts : List Expr) : List Str := ts.filterMap fun
    | .Name id pos => if sc.names.lookup id == some .local && pos.line == (ts.head?.map (·.pos.line)).getD 0 then some id else none
    | _ => none
/-- stores that are not exchanged -/
def stN (sc : Scope) (tg e : Expr) : Bool := match tg, e with
  | .Tuple ts _ _, .Tuple vs _ _ => !(ts.length == 2 || ts.length == 3) || vs.length != ts.length || stars vs || ((stNames sc ts).length != ts.length || (stNames sc ts).eraseDups.length != (stNames sc ts).length) || vs.all (foldedForSure 8)
  | .List _ _, _ => false
  | _, _ => true
theorem st_none {sc : Scope} {tg e : Expr} {env : Env} (hs : env.scope = sc) (h : stN sc tg e = true) : swappedStores [tg] e env = pure none := by
  have key : ∀ ts vs : List Expr, (!(ts.length == 2 || ts.length == 3) || vs.length != ts.length || stars vs || ((stNames sc ts).length != ts.length || (stNames sc ts).eraseDups.length != (stNames sc ts).length) || vs.all (foldedForSure 8)) = true →
      (if (!(ts.length == 2 || ts.length == 3) || vs.length != ts.length || env.blockKind != .function) = true then (pure none : Sem (Option (List Str))) else if stars vs = true then pure none else if ((stNames sc ts).length != ts.length || (stNames sc ts).eraseDups.length != (stNames sc ts).length) = true then pure none else if vs.all (foldedForSure 8) = true then pure none else if vs.all (constantsAlone 8) = true then (do let _ ← (unsupported "assign.tuple-of-constant-expressions:order-of-the-stores" : Sem PUnit); pure (some (stNames sc ts))) else pure (some (stNames sc ts))) = pure none := fun ts vs h => by
    split
    · rfl
    · rename_i c1
      split
      · rfl
      · rename_i c2
        split
        · rfl
        · rename_i c3
          split
          · rfl
          · rename_i c4
            simp only [Bool.not_eq_true, Bool.or_eq_false_iff] at c1 c2 c3 c4
            rw [c1.1.1, c1.1.2, c2, c3.1, c3.2, c4] at h
            cases h
  cases tg <;> first | rfl | (cases e <;> rfl; done) | exact (Bool.false_ne_true h).elim | skip
  rename_i ts kt p
  cases e <;> first | rfl | skip
  rename_i vs k2 p2
  have h' := key ts vs h
  subst hs
  exact h'
/-- .. that are -/
def stS (sc : Scope) (x y : Str) (px py : Pos) (a b : Expr) : Bool := decide (sc.kind = .function) && nostar a && nostar b && (sc.names.lookup x == some .local) && (sc.names.lookup y == some .local) && (py.line == px.line) && decide (x ≠ y) && !([a, b].all (foldedForSure 8)) && !([a, b].all (constantsAlone 8))
theorem dd2 {x y : Str} (h : x ≠ y) : [x, y].eraseDups.length = 2 := by
  have : (y == x) = false := beq_eq_false_iff_ne.mpr (Ne.symm h)
  simp [List.eraseDups_cons, this]
theorem st_some {sc : Scope} {x y : Str} {px py pt pt2 : Pos} {kt k2 : Nat} {a b : Expr} {env : Env} (hs : env.scope = sc) (h : stS sc x y px py a b = true) : swappedStores [.Tuple [.Name x px, .Name y py] kt pt] (.Tuple [a, b] k2 pt2) env = pure (some [x, y]) := by
  unfold stS at h
  simp only [Bool.and_eq_true, decide_eq_true_eq, Bool.not_eq_true'] at h
  obtain ⟨⟨⟨⟨⟨⟨⟨⟨h1, h2⟩, h3⟩, h4⟩, h5⟩, h6⟩, h7⟩, h8⟩, h9⟩ := h
  subst hs
  have hst : stars [a, b] = false := by
    clear h8 h9
    unfold stars
    cases a <;> first | exact (Bool.false_ne_true h2).elim | (cases b <;> first | rfl | exact (Bool.false_ne_true h3).elim)
  have hn : stNames env.scope [.Name x px, .Name y py] = [x, y] := by
    unfold stNames
    have e1 : (env.scope.names.lookup x == some .local && px.line == px.line) = true := by rw [h4]; simp
    have e2 : (env.scope.names.lookup y == some .local && py.line == px.line) = true := by rw [h5, h6]; rfl
    show List.filterMap _ _ = _
    simp only [List.filterMap_cons, List.head?_cons, Option.map_some, Option.getD_some, Expr.pos, e1, e2, if_true, List.filterMap_nil]
  have hb : (env.blockKind != .function) = false := by
    unfold Env.blockKind
    rw [h1]
    rfl
  show (if (!(([Expr.Name x px, .Name y py] : List Expr).length == 2 || ([Expr.Name x px, .Name y py] : List Expr).length == 3) || [a, b].length != ([Expr.Name x px, .Name y py] : List Expr).length || env.blockKind != .function) = true then (pure none : Sem (Option (List Str))) else if stars [a, b] = true then pure none else if ((stNames env.scope [.Name x px, .Name y py]).length != ([Expr.Name x px, .Name y py] : List Expr).length || (stNames env.scope [.Name x px, .Name y py]).eraseDups.length != (stNames env.scope [.Name x px, .Name y py]).length) = true then pure none else if [a, b].all (foldedForSure 8) = true then pure none else if [a, b].all (constantsAlone 8) = true then (do let _ ← (unsupported "assign.tuple-of-constant-expressions:order-of-the-stores" : Sem PUnit); pure (some (stNames env.scope [.Name x px, .Name y py]))) else pure (some (stNames env.scope [.Name x px, .Name y py]))) = pure (some [x, y])
  rw [hb, hst, hn, h8, h9, dd2 h7]
  rfl
end VM
set_option Elab.async false
set_option linter.all false
set_option maxRecDepth 100000
set_option maxHeartbeats 4000000
/-! VmZq: statements that the check takes do as the code says. -/
namespace VM
open PySem PySem.Spec L2 LamX
def isFrz : S → Bool
  | .frz _ => true
  | _ => false
def isLc : E → Bool
  | .lc _ _ _ _ _ => true
  | _ => false
def isComp : Expr → Bool
  | .ListComp _ _ _ _ | .SetComp _ _ _ _ | .DictComp _ _ _ _ _ => true
  | _ => false
mutual
def chkSt (T : Tab) (N : List Str) : S → Sco → Stmt → Bool
  | .set p e, g, st => match st with
    | .Assign [tg] v _ => if swB g.sc tg v then isLc e && decide (g.sc.kind = .function) && tgB N g.sc p tg && chkE T N e g v else noSD v && stN g.sc tg v && tgB N g.sc p tg && chkE T N e g v
    | _ => false
  | .seti p c _ a _ b, g, st => match st with
    | .Assign [tg] (.IfExp c' a' b' _) _ => stN g.sc tg (.IfExp c' a' b' ⟨0, 0, 0, 0⟩) && tgB N g.sc p tg && (chkE T N c g c' && (chkE T N a g a' && chkE T N b g b'))
    | _ => false
  | .par is es, g, st => match is, st with
    | [i, j], .Assign [.Tuple [.Name x px, .Name y py] _ _] (.Tuple [a, b] _ _) _ => decide (N[i]? = some x) && decide (N[j]? = some y) && decide (i ≠ j) && stS g.sc x y px py a b && chkEs T N es g [a, b]
    | _, _ => false
  | .setx i ix v, g, st => match st with
    | .Assign [.Subscript (.Name x _) ix' _] v' _ => nmB N g.sc i x && plainIx ix' && (chkE T N ix g ix' && chkE T N v g v')
    | _ => false
  | .augx i ix o v, g, st => match st with
    | .AugAssign (.Subscript (.Name x _) ix' _) op v' _ => nmB N g.sc i x && plainIx ix' && augOk o && decide (op = bopA o) && (chkE T N ix g ix' && chkE T N v g v')
    | _ => false
  | .aug i o v, g, st => match st with
    | .AugAssign (.Name x _) op v' _ => decide (N[i]? = some x) && locB g.sc x && augOk o && decide (op = bopA o) && chkE T N v g v'
    | _ => false
  | .app i v, g, st => match st with
    | .Expr (.Call (.Attribute (.Name x _) m apos) [e] [] cpos) _ => nmB N g.sc i x && decide (m = "append") && (apos.endLine == cpos.line) && nostar e && chkE T N v g e
    | _ => false
  | .appp i j ix, g, st => match st with
    | .Expr (.Call (.Attribute (.Name x _) m a1) [.Call (.Attribute (.Name y _) m2 a2) [e] [] c2] [] c1) _ => nmB N g.sc i x && nmB N g.sc j y && decide (m = "append") && decide (m2 = "pop") && (a1.endLine == c1.line) && (a2.endLine == c2.line) && nostar e && chkE T N ix g e
    | _ => false
  | .ext i v, g, st => match st with
    | .Expr (.Call (.Attribute (.Name x _) m apos) [e] [] cpos) _ => nmB N g.sc i x && decide (m = "extend") && (apos.endLine == cpos.line) && nostar e && chkE T N v g e
    | _ => false
  | .clr i, g, st => match st with
    | .Expr (.Call (.Attribute (.Name x _) m apos) [] [] cpos) _ => nmB N g.sc i x && decide (m = "clear") && (apos.endLine == cpos.line)
    | _ => false
  | .dS i f v, g, st => match st with
    | .Assign [.Subscript (.Name x _) (.Constant (.str s) _ _) _] v' _ => nmB N g.sc i x && decide (s = keyD f) && chkE T N v g v'
    | _ => false
  | .ite c a b, g, st => match st with
    | .If c' a' b' _ => chkE T N c g c' && (chkSs T N a g a' && chkSs T N b g b')
    | _ => false
  | .forr p s body, g, st => match st with
    | .For tg iter sts [] _ => notSet iter && tgB N g.sc p tg && (chkS T N s g tg iter && chkSs T N body g sts)
    | _ => false
  | .whl _ c body, g, st => match st with
    | .While c' sts [] _ => chkE T N c g c' && chkSs T N body g sts
    | _ => false
  | .ret e, g, st => match st with
    | .Return (some e') _ => chkE T N e g e'
    | _ => false
  | .retN, _, st => match st with
    | .Return none _ => true
    | _ => false
  | .brk, _, st => match st with
    | .Break _ => true
    | _ => false
  | .cnt, _, st => match st with
    | .Continue _ => true
    | _ => false
  | .pas, _, st => match st with
    | .Pass _ => true
    | _ => false
  | .rai n as, g, st => match st with
    | .Raise (some (.Call (.Name x _) [a] [] _)) none _ => glB g.sc x && decide (T.cls[n]? = some x) && nostar a && chkEs T N as g [a]
    | _ => false
  | .retD es fs, g, st => match st with
    | .Return (some (.Dict [some (.Constant (.str k1) _ _), some (.Constant (.str k2) _ _), some (.Constant (.str k3) _ _), some (.Constant (.str k4) _ _)] [a, b, c, d] _)) _ =>
      decide (fs = [.large, .rest, .cells, .turn]) && decide (k1 = "large") && decide (k2 = "rest") && decide (k3 = "cells") && decide (k4 = "turn") && [a, b, c, d].all nostar && chkEs T N es g [a, b, c, d]
    | _ => false
  | .exp e, g, st => match st with
    | .Expr e' _ => !isComp e' && chkE T N e g e'
    | _ => false
  | .frz _, _, _ => false
def chkSs (T : Tab) (N : List Str) : Ss → Sco → List Stmt → Bool
  | .nil, _, sts => sts.isEmpty
  | .cons s r, g, sts => if isFrz s then chkSs T N r g sts else match sts with
    | st :: sts => chkSt T N s g st && chkSs T N r g sts
    | [] => false
end
/-- a def's frame -/
structure FB (Z : Zed) (k : Nat) (gu : Bool) (Wx : Value → Option Addr → Hp → Prop) (X : Cx) (sc : Scope) (N : List Str) : Prop where
  c : FC Z k gu Wx X sc N
  r2 : Room (k + 2) X.A
  fn : ∀ x, X.fn x = true
  po : PassesOwn (model X.prog X.w) X.A X.env X.xe
section
variable {Z : Zed} {C : Cfg} {Φ : Phi} {k : Nat} {T : Tab} {N : List Str}
theorem FB.up {gu : Bool} {Wx : Value → Option Addr → Hp → Prop} {X : Cx} {sc : Scope} (b : FB Z k gu Wx X sc N) : FC Z (k + 1) gu Wx X sc N := { b.c with room := b.r2.mono (by omega) }
theorem chk_cons {es : Es} {g : Sco} {a : Expr} {ts : List Expr} (h : chkEs T N es g (a :: ts) = true) (hn : nostar a = true) : ∃ e r, es = .cons false e r ∧ chkE T N e g a = true ∧ chkEs T N r g ts = true := by
  cases es with
  | nil => exact (Bool.false_ne_true h).elim
  | cons s e r =>
    cases s with
    | true => cases a <;> first | exact (Bool.false_ne_true h).elim | exact (Bool.false_ne_true hn).elim
    | false =>
      have h5 : (nostar a && (chkE T N e g a && chkEs T N r g ts)) = true := h
      simp only [Bool.and_eq_true] at h5
      exact ⟨e, r, rfl, h5.2.1, h5.2.2⟩
theorem chk_nil {es : Es} {g : Sco} (h : chkEs T N es g [] = true) : es = .nil := by
  cases es with
  | nil => rfl
  | cons s e r => cases s <;> exact (Bool.false_ne_true h).elim
theorem tg1 {sc : Scope} {p : Pt} {tg : Expr} {env : Env} (h : tgB N sc p tg = true) : (assignEach [tg] env).map (·.2) = [assign tg env] := by
  cases p <;> cases tg <;> first | exact (Bool.false_ne_true h).elim | rfl
mutual
theorem sSt (t : TabOk Z C Φ k T) : ∀ (s : S) {g : Sco} {X : Cx} {Wx : Value → Option Addr → Hp → Prop} {G0 E0 : Hp} {st : Stmt}, FB Z k g.gu Wx X g.sc N → (g.la = true → FX Z k X) → chkSt T N s g st = true → PS X st (SS Z Wx G0 E0 (exS C Φ s))
  | .set p e, g, X, Wx, G0, E0, st, b, fx, h => by
    simp only [chkSt] at h
    split at h <;> first | exact (Bool.false_ne_true h).elim | skip
    rename_i tg v pos
    split at h
    · rename_i hsw
      simp only [Bool.and_eq_true, decide_eq_true_eq] at h
      obtain ⟨⟨⟨h0, h1⟩, h2⟩, h3⟩ := h
      cases e <;> first | exact (Bool.false_ne_true h0).elim | skip
      rename_i e p2 s tt own
      simp only [chkE] at h3
      split at h3 <;> first | exact (Bool.false_ne_true h3).elim | skip
      rename_i elt tg2 iter ifs asy scope lpos
      simp only [Bool.and_eq_true, decide_eq_true_eq] at h3
      obtain ⟨⟨⟨⟨⟨rfl, k1⟩, k2⟩, k3⟩, k4⟩, k5, k6, k7⟩ := h3
      cases tg <;> first | exact (Bool.false_ne_true hsw).elim | skip
      rename_i y py
      have hsw : ((g.sc.names.lookup y == some .local) && (py.line == lpos.line) && !(scope.names.any fun (n, k) => n == y && (k == .local || k == .cell))) = true := hsw
      simp only [Bool.and_eq_true, Bool.not_eq_true', beq_iff_eq] at hsw
      cases p with
      | tp is => exact (Bool.false_ne_true h2).elim
      | nm i =>
        have h2 : (decide (N[i]? = some y) && locB g.sc y) = true := h2
        simp only [Bool.and_eq_true, decide_eq_true_eq] at h2
        have hyl : X.env.scope.names.lookup y = some .local := by rw [b.c.hsc]; exact hsw.1.1
        have key := ss_setLc (Wx := Wx) (G0 := G0) (E0 := E0) (pos := pos) (elt := elt) (f := ev C Φ e) (fT := evT C Φ tt) (p := p2) (py := py) (lpos := lpos) b.c.calm (by rw [b.c.hN]; exact b.c.nd) (by rw [b.c.hN]; exact h2.1) hyl
          (sw_true (by rw [b.c.hsc]; exact h1) hyl (beq_iff_eq.mpr hsw.1.2) hsw.2) (sS t s (tg := tg2) b.c fx k5) (blk_of b.c k1) (fun s H D cl fp => pg_ptB (fc_blk b.c) (fun x hx => beq_iff_eq.mpr hx) k2)
          (fun s H D cl fp => sT t tt (g := ⟨false, g.gu, relS scope g.sc⟩) (fc_blk b.c) (fun z => by cases z) k6) (fun s H D cl fp => (sE t e (g := ⟨false, g.gu, relS scope g.sc⟩) (fc_blk b.c) (fun z => by cases z) k7).1) (fold_of k4)
          (fun i hi => by rw [own_snd]; simpa using List.all_eq_true.mp k3 i hi)
        rw [own_snd] at key
        exact key
    · rename_i hsw
      simp only [Bool.and_eq_true] at h
      obtain ⟨⟨⟨h1, h2⟩, h3⟩, h4⟩ := h
      exact ss_set (sE t e b.c fx h4).1 (pg_tgB b.c b.fn h3).2 (sw_false b.c.hsc h1 (by simpa using hsw)) (st_none b.c.hsc h2) (tg1 h3)
  | .seti p c fa a fb d, g, X, Wx, G0, E0, st, b, fx, h => by
    simp only [chkSt] at h
    split at h <;> first | exact (Bool.false_ne_true h).elim | skip
    rename_i tg c' a' b' ipos pos
    simp only [Bool.and_eq_true] at h
    obtain ⟨⟨h2, h3⟩, h4, h5, h6⟩ := h
    have h2' : stN g.sc tg (.IfExp c' a' b' ipos) = true := by rw [← h2]; cases tg <;> rfl
    exact ss_seti (sE t c b.c fx h4).2 (sE t a b.c fx h5).1 (sE t d b.c fx h6).1 (pg_tgB b.c b.fn h3).2 (sw_false b.c.hsc rfl rfl) (st_none b.c.hsc h2') (tg1 h3)
  | .par is es, g, X, Wx, G0, E0, st, b, fx, h => by
    simp only [chkSt] at h
    split at h <;> first | exact (Bool.false_ne_true h).elim | skip
    simp only [Bool.and_eq_true, decide_eq_true_eq] at h
    obtain ⟨⟨⟨⟨h1, h2⟩, h3⟩, h4⟩, h5⟩ := h
    have h4' := h4
    unfold stS at h4'
    simp only [Bool.and_eq_true, decide_eq_true_eq, beq_iff_eq] at h4'
    exact ss_par b.c.calm (by rw [b.c.hN]; exact b.c.nd) (by rw [b.c.hN]; exact h1) (by rw [b.c.hN]; exact h2) h3 (by rw [b.c.hsc]; exact h4'.1.1.1.1.1.2) (by rw [b.c.hsc]; exact h4'.1.1.1.1.2) (sEs t es b.c fx h5) (st_some b.c.hsc h4) rfl
  | .setx i ix v, g, X, Wx, G0, E0, st, b, fx, h => by
    simp only [chkSt] at h
    split at h <;> first | exact (Bool.false_ne_true h).elim | skip
    rename_i x p1 ix' spos v' pos
    simp only [Bool.and_eq_true] at h
    obtain ⟨⟨h1, h2⟩, h3, h4⟩ := h
    exact ss_setx (nm_of b.c h1) (sE t v b.c fx h4).1 (sE t ix b.c fx h3).1 (by cases v' <;> rfl) (by cases v' <;> rfl) fun v => by cases ix' <;> first | rfl | exact (Bool.false_ne_true h2).elim
  | .augx i ix o v, g, X, Wx, G0, E0, st, b, fx, h => by
    simp only [chkSt] at h
    split at h <;> first | exact (Bool.false_ne_true h).elim | skip
    rename_i x p1 ix' spos op v' pos
    simp only [Bool.and_eq_true, decide_eq_true_eq] at h
    obtain ⟨⟨⟨⟨h1, h2⟩, h3⟩, rfl⟩, h4, h5⟩ := h
    exact ss_augx b.c.hK (nm_of b.c h1) (sE t ix b.c fx h4).1 (sE t v b.c fx h5).1 h3 fun _ _ _ => by cases ix' <;> first | rfl | exact (Bool.false_ne_true h2).elim
  | .aug i o v, g, X, Wx, G0, E0, st, b, fx, h => by
    simp only [chkSt] at h
    split at h <;> first | exact (Bool.false_ne_true h).elim | skip
    rename_i x p1 op v' pos
    simp only [Bool.and_eq_true, decide_eq_true_eq] at h
    obtain ⟨⟨⟨⟨h1, h2⟩, h3⟩, rfl⟩, h4⟩ := h
    exact ss_aug (by rw [b.c.hN]; exact b.c.nd) (by rw [b.c.hN]; exact h1) (by rw [b.c.hsc]; exact loc_of h2) (.inl (b.fn x)) (sE t v b.c fx h4).1 h3
  | .app i v, g, X, Wx, G0, E0, st, b, fx, h => by
    simp only [chkSt] at h
    split at h <;> first | exact (Bool.false_ne_true h).elim | skip
    simp only [Bool.and_eq_true, decide_eq_true_eq] at h
    obtain ⟨⟨⟨⟨h1, rfl⟩, h2⟩, h3⟩, h4⟩ := h
    exact ss_app (nm_of b.c h1) (sE t v b.c fx h4).1 (ns_of h3) h2
  | .appp i j ix, g, X, Wx, G0, E0, st, b, fx, h => by
    simp only [chkSt] at h
    split at h <;> first | exact (Bool.false_ne_true h).elim | skip
    simp only [Bool.and_eq_true, decide_eq_true_eq] at h
    obtain ⟨⟨⟨⟨⟨⟨⟨h1, h2⟩, rfl⟩, rfl⟩, h3⟩, h4⟩, h5⟩, h6⟩ := h
    exact ss_appp (nm_of b.c h1) (nm_of b.c h2) (sE t ix b.c fx h6).1 (ns_of h5) h3 h4
  | .ext i v, g, X, Wx, G0, E0, st, b, fx, h => by
    simp only [chkSt] at h
    split at h <;> first | exact (Bool.false_ne_true h).elim | skip
    simp only [Bool.and_eq_true, decide_eq_true_eq] at h
    obtain ⟨⟨⟨⟨h1, rfl⟩, h2⟩, h3⟩, h4⟩ := h
    exact ss_ext (nm_of b.c h1) (sE t v b.c fx h4).1 (ns_of h3) h2
  | .clr i, g, X, Wx, G0, E0, st, b, fx, h => by
    simp only [chkSt] at h
    split at h <;> first | exact (Bool.false_ne_true h).elim | skip
    simp only [Bool.and_eq_true, decide_eq_true_eq] at h
    obtain ⟨⟨h1, rfl⟩, h2⟩ := h
    exact ss_clr (nm_of b.c h1) h2
  | .dS i f v, g, X, Wx, G0, E0, st, b, fx, h => by
    simp only [chkSt] at h
    split at h <;> first | exact (Bool.false_ne_true h).elim | skip
    rename_i x p1 s j p2 pos' v' pos
    simp only [Bool.and_eq_true, decide_eq_true_eq] at h
    obtain ⟨⟨h1, rfl⟩, h2⟩ := h
    exact ss_dS (nm_of b.c h1) (un_of b.c) (sE t v b.c fx h2).1 (by cases v' <;> rfl)
  | .ite c a d, g, X, Wx, G0, E0, st, b, fx, h => by
    simp only [chkSt] at h
    split at h <;> first | exact (Bool.false_ne_true h).elim | skip
    simp only [Bool.and_eq_true] at h
    obtain ⟨h1, h2, h3⟩ := h
    exact ss_if (sE t c b.c fx h1).2 (sSs t a b fx h2) (sSs t d b fx h3)
  | .forr p s body, g, X, Wx, G0, E0, st, b, fx, h => by
    simp only [chkSt] at h
    split at h <;> first | exact (Bool.false_ne_true h).elim | skip
    simp only [Bool.and_eq_true] at h
    obtain ⟨⟨h1, h2⟩, h3, h4⟩ := h
    exact ss_for b.po b.c.calm (sS t s b.c fx h3) (pg_tgB b.c b.fn h2).1 (sSs t body b fx h4) (fold_of h1)
  | .whl n c body, g, X, Wx, G0, E0, st, b, fx, h => by
    simp only [chkSt] at h
    split at h <;> first | exact (Bool.false_ne_true h).elim | skip
    simp only [Bool.and_eq_true] at h
    exact ss_whl b.po (sE t c b.c fx h.1).2 (sSs t body b fx h.2)
  | .ret e, g, X, Wx, G0, E0, st, b, fx, h => by
    simp only [chkSt] at h
    split at h <;> first | exact (Bool.false_ne_true h).elim | skip
    exact ss_ret (sE t e b.c fx h).1
  | .retN, g, X, Wx, G0, E0, st, b, fx, h => by
    simp only [chkSt] at h
    split at h <;> first | exact (Bool.false_ne_true h).elim | skip
    exact ss_retN
  | .brk, g, X, Wx, G0, E0, st, b, fx, h => by
    simp only [chkSt] at h
    split at h <;> first | exact (Bool.false_ne_true h).elim | skip
    exact ss_break
  | .cnt, g, X, Wx, G0, E0, st, b, fx, h => by
    simp only [chkSt] at h
    split at h <;> first | exact (Bool.false_ne_true h).elim | skip
    exact ss_continue
  | .pas, g, X, Wx, G0, E0, st, b, fx, h => by
    simp only [chkSt] at h
    split at h <;> first | exact (Bool.false_ne_true h).elim | skip
    exact ss_pass
  | .rai n as, g, X, Wx, G0, E0, st, b, fx, h => by
    simp only [chkSt] at h
    split at h <;> first | exact (Bool.false_ne_true h).elim | skip
    rename_i x p a pos pos'
    simp only [Bool.and_eq_true, decide_eq_true_eq] at h
    obtain ⟨⟨⟨h1, h2⟩, h3⟩, h4⟩ := h
    obtain ⟨hg, hd⟩ := gl_of b.c h1
    have ef : C.fldN = Z.fldN := t.fldN
    cases as with
    | nil => exact (Bool.false_ne_true h4).elim
    | cons s e r =>
      cases s with
      | true => cases a <;> first | exact (Bool.false_ne_true h4).elim | exact (Bool.false_ne_true h3).elim
      | false =>
        have h5 : (nostar a && (chkE T N e g a && chkEs T N r g [])) = true := h4
        simp only [Bool.and_eq_true] at h5
        cases r with
        | nil =>
          have key := ss_rai (Wx := Wx) (G0 := G0) (E0 := E0) (pos := pos) (pos' := pos') (p := p) b.up (t.cl n x h2) hg (sE t e (G0 := G0) (E0 := E0) b.c fx h5.2.1).1 (ns_of h3) hd
          rw [← ef] at key
          exact key
        | cons s2 e2 r2 => cases s2 <;> exact (Bool.false_ne_true h5.2.2).elim
  | .retD es fs, g, X, Wx, G0, E0, st, b, fx, h => by
    simp only [chkSt] at h
    split at h <;> first | exact (Bool.false_ne_true h).elim | skip
    simp only [Bool.and_eq_true, decide_eq_true_eq] at h
    obtain ⟨⟨⟨⟨⟨⟨rfl, rfl⟩, rfl⟩, rfl⟩, rfl⟩, hn⟩, h⟩ := h
    have hn' := List.all_eq_true.mp hn
    obtain ⟨e1, r1, rfl, k1, h⟩ := chk_cons h (hn' _ (by simp))
    obtain ⟨e2, r2, rfl, k2, h⟩ := chk_cons h (hn' _ (by simp))
    obtain ⟨e3, r3, rfl, k3, h⟩ := chk_cons h (hn' _ (by simp))
    obtain ⟨e4, r4, rfl, k4, h⟩ := chk_cons h (hn' _ (by simp))
    obtain rfl := chk_nil h
    exact ss_retD (sE t e1 b.c fx k1).1 (sE t e2 b.c fx k2).1 (sE t e3 b.c fx k3).1 (sE t e4 b.c fx k4).1
  | .exp e, g, X, Wx, G0, E0, st, b, fx, h => by
    simp only [chkSt] at h
    split at h <;> first | exact (Bool.false_ne_true h).elim | skip
    rename_i e' pos
    simp only [Bool.and_eq_true, Bool.not_eq_true'] at h
    exact ss_exp (sE t e b.c fx h.2).1 (by cases e' <;> first | rfl | (cases h.1))
  | .frz i, g, X, Wx, G0, E0, st, b, fx, h => (Bool.false_ne_true h).elim
theorem sSs (t : TabOk Z C Φ k T) : ∀ (r : Ss) {g : Sco} {X : Cx} {Wx : Value → Option Addr → Hp → Prop} {G0 E0 : Hp} {sts : List Stmt}, FB Z k g.gu Wx X g.sc N → (g.la = true → FX Z k X) → chkSs T N r g sts = true → PSs X sts (SS Z Wx G0 E0 (exSs C Φ r))
  | .nil, g, X, Wx, G0, E0, sts, b, fx, h => by
    cases sts with
    | nil => exact ss_nil
    | cons _ _ => exact (Bool.false_ne_true h).elim
  | .cons s r, g, X, Wx, G0, E0, sts, b, fx, h => by
    simp only [chkSs] at h
    split at h
    · rename_i hz
      have := sSs t r (G0 := G0) (E0 := E0) b fx h
      cases s <;> first | exact (Bool.false_ne_true hz).elim | skip
      exact ss_frz this
    · split at h <;> first | exact (Bool.false_ne_true h).elim | skip
      simp only [Bool.and_eq_true] at h
      exact ss_cons (sSt t s b fx h.1) (sSs t r b fx h.2)
end
end
end VM
set_option Elab.async false
set_option linter.all false
set_option maxRecDepth 100000
set_option maxHeartbeats 400000
/-! VmZr: the program's defs, by induction on the depth of calls. -/
namespace VM
open PySem PySem.Spec L2 LamX
/-- what is known of the module's names, but for the defs -/
structure TabS (Z : Zed) (C : Cfg) (T : Tab) : Prop where
  cl : ∀ c x, T.cls[c]? = some x → ClI Z c x
  con : ∀ x d, T.con.lookup x = some d → ∃ v u, Z.mg x = some u ∧ RelV v u ∧ ∀ G, Rp Z G v d
  cau : T.cau ≠ "" → CauI Z T.cau C.takes
  no : ∀ x ∈ bltNs, Z.mg x = none
  ty : ∀ t x, (t, x) ∈ T.tys → ∃ cv u, TyI Z C.sub t cv u ∧ RelV cv u ∧ (Z.mg x = some u ∨ (Z.mg x = none ∧ bootBuiltins x = some u ∧ x ≠ "__name__"))
  fldN : C.fldN = Z.fldN
  fld : ∀ n c, (Z.fldN c).contains n = true → XfC Z.K (Z.ca c) ∧ PySem.W.findIn Z.K (.ref (Z.ca c)) n = some none
  cx : ∀ f, C.cx f = true → ∃ e, T.fns[f]? = some e ∧ e.gu = false
/-- a def as it stands in the heap, its code checked -/
structure FnK (Z : Zed) (T : Tab) (i : Nat) (e : FnT) (fd : Fd) : Prop where
  ok : ∃ (qual : Str) (params : Arguments) (body : List Stmt) (scope : Scope) (dV kV doc pm cdv ct oc : Value) (an od : Option Addr) (osl : Array (Option Value)) (N : List Str) (la : Bool),
    Z.K.lookup (Z.fa i) = some ⟨oc, od, .func (PySem.W.fnOf e.nm qual params body scope dV kV doc pm an cdv ct), osl⟩ ∧ PySem.W.codeIn Z.K cdv qual = true ∧ FnScope N e.ps scope ∧
    L2.Binds Z.K (PySem.W.fnOf e.nm qual params body scope dV kV doc pm an cdv ct) e.ps [] ∧ KwOk (PySem.W.fnOf e.nm qual params body scope dV kV doc pm an cdv ct) e.ps e.kt ∧ Z.mg e.nm = some (.ref (Z.fa i)) ∧ PySem.W.keepIn Z.K (.ref (Z.fa i)) = true ∧
    fd.np = e.ps.length ∧ fd.nn = N.length ∧ chkSs T N fd.body ⟨la, e.gu, scope⟩ body = true ∧
    (la = true → ∃ c P, TabB Z.base Z.mg c P ∧ cdv = .ref c ∧ (P, (PyProof.Rows.envOfC qual scope 0 0 cdv).qual ++ "<lambda>") ∈ Z.T ∧ ∀ p ∈ Z.T, p.1 = P → p.2 = (PyProof.Rows.envOfC qual scope 0 0 cdv).qual ++ "<lambda>")
section
variable {Z : Zed} {C : Cfg} {T : Tab} {pr : List Fd}
theorem fits_of {N P : List Str} {sc : Scope} (S : FnScope N P sc) : P.length ≤ N.length := by
  have := congrArg List.length S.pre
  rw [List.length_take] at this
  omega
theorem fn_body {Φ : Phi} {k i : Nat} {fd : Fd} {ps N : List Str} {gu la : Bool} {qual : Str} {scope : Scope} {cdv : Value} {body : List Stmt} {A : Around} {outer : List Env} {s : Shared} {H : Hp} {vs : List V} {Q : VK} {E : XK} (t : TabOk Z C Φ k T) (S : FnScope N ps scope)
    (hr : Room (k + 2) (A.deeper (PyProof.Rows.envOfC qual scope s.heap.objs.size (Z.fa i) cdv))) (hg : gu = true → A.guards = some []) (h1 : fd.np = ps.length) (h2 : fd.nn = N.length) (hchk : chkSs T N fd.body ⟨la, gu, scope⟩ body = true)
    (hla : la = true → ∃ c P, TabB Z.base Z.mg c P ∧ cdv = .ref c ∧ (P, (PyProof.Rows.envOfC qual scope 0 0 cdv).qual ++ "<lambda>") ∈ Z.T ∧ ∀ p ∈ Z.T, p.1 = P → p.2 = (PyProof.Rows.envOfC qual scope 0 0 cdv).qual ++ "<lambda>") (sp : spF Z ps.length (runF C Φ fd) vs H Q E) :
    ∃ t, PSs (cxOf (L2.CX Z.P Z.w) Z.P Z.w Z.K Z.mg Z.base N qual scope (Z.fa i) cdv A outer s H E) body t ∧ t { nx := fun _ H' => Q .non H', rt := Q } (L2.start N vs) H := by
  obtain ⟨hl, G, ds, w, g, r, o⟩ := sp
  have hds : ds.length = ps.length := by rw [← r.length, hl]
  generalize hX : cxOf (L2.CX Z.P Z.w) Z.P Z.w Z.K Z.mg Z.base N qual scope (Z.fa i) cdv A outer s H E = X
  have b : FB Z k gu E X scope N := by
    subst hX
    exact ⟨{ hP := rfl, hw := rfl, hK := rfl, hm := rfl, hb := rfl, calm := rfl, hN := rfl, nd := S.nd, hsc := rfl, tk := takes_of rfl rfl rfl rfl, room := Room.mono hr (by omega), gd := fun z => hg z }, hr, fun _ => rfl, passes_of rfl⟩
  have fx : la = true → FX Z k X := fun z => by
    obtain ⟨c, P, tb, e, m, u⟩ := hla z
    have e1 : X.env.qual = (PyProof.Rows.envOfC qual scope 0 0 cdv).qual := by subst hX; rfl
    have e2 : X.env.code = cdv := by subst hX; rfl
    have e3 : X.base = Z.base := by subst hX; rfl
    have e4 : X.mg = Z.mg := by subst hX; rfl
    have e5 : Room (k + 2) X.A := by subst hX; exact hr
    refine ⟨e5, c, P, by rw [e3, e4]; exact tb, by rw [e2]; exact e, ?_, ?_⟩
    · rw [e1]; exact m
    · rw [e1]; exact u
  refine ⟨SS Z E G H (exSs C Φ fd.body), sSs t fd.body (g := ⟨la, gu, scope⟩) b fx hchk, G, _, w, stt_start (m := fd.nn) g r h2 (by rw [hl, h2]; exact (fits_of S)), body_end (w := w) ?_⟩
  unfold runF at o
  rw [if_pos ⟨by rw [hds, h1], by rw [h1, h2]; exact (fits_of S)⟩, h1, ← hds] at o
  exact o
/-- a def at a depth of calls, from the defs at one less -/
theorem fn_step {Φ : Phi} {k i : Nat} {e : FnT} {fd : Fd} (t : TabOk Z C Φ k T) (h : FnK Z T i e fd) : ∃ fdd, FnG e.gu Z.P Z.w Z.K Z.mg Z.base (L2.CX Z.P Z.w) (k + 3) (Z.fa i) fdd e.ps (spF Z e.ps.length (runF C Φ fd)) ∧ L2.Binds Z.K fdd e.ps [] ∧ KwOk fdd e.ps e.kt := by
  obtain ⟨qual, params, body, scope, dV, kV, doc, pm, cdv, ct, oc, an, od, osl, N, la, lk, hc, S, hb, hk, hm, hkp, h1, h2, hchk, hla⟩ := h.ok
  refine ⟨PySem.W.fnOf e.nm qual params body scope dV kV doc pm an cdv ct, ?_, hb, hk⟩
  refine fn_ofG (k := k + 2) lk hc S (fun vs H Q E sp => sp.1) ?_
  intro A outer s H vs Q E hr hg sp
  exact fn_body t S hr hg h1 h2 hchk hla sp
theorem prog_ok (S : TabS Z C T) (hF : ∀ f e, T.fns[f]? = some e → ∃ fd, pr[f]? = some fd ∧ FnK Z T f e fd) : ∀ n, TabOk Z C (den C pr n) (3 * n + 1) T
  | 0 => by
    have fn : ∀ f e, T.fns[f]? = some e → FnI Z 1 e.gu (den C pr 0 f) (Z.fa f) e.nm e.ps e.kt := fun f e he => by
      obtain ⟨fd, _, h⟩ := hF f e he
      obtain ⟨qual, params, body, scope, dV, kV, doc, pm, cdv, ct, oc, an, od, osl, N, la, lk, hc, S, hb, hk, hm, hkp, _⟩ := h.ok
      exact ⟨⟨_, ⟨fun vs H Q E sp => sp.1, fun A outer s H args us vs Q E _ _ _ _ _ sp => by
        obtain ⟨_, _, _, _, _, _, o⟩ := sp
        exact o.elim⟩, hb, hk⟩, fun _ _ _ => rfl, hm, hkp⟩
    exact ⟨fn, S.cl, S.con, S.cau, S.no, S.ty, S.fldN, S.fld, fun f hf => by
      obtain ⟨e, he, hgu⟩ := S.cx f hf
      have := fn f e he
      rw [hgu] at this
      exact ⟨_, _, _, this⟩⟩
  | n + 1 => by
    have t := prog_ok S hF n
    have fn : ∀ f e, T.fns[f]? = some e → FnI Z (3 * (n + 1) + 1) e.gu (den C pr (n + 1) f) (Z.fa f) e.nm e.ps e.kt := fun f e he => by
      obtain ⟨fd, hp, h⟩ := hF f e he
      have ed : den C pr (n + 1) f = runF C (den C pr n) fd := by
        funext ds w
        show (match pr[f]? with | some fd => runF C (den C pr n) fd ds w | none => .bad) = _
        rw [hp]
      rw [ed]
      refine ⟨fn_step t h, fun ds w hne => ?_, ?_, ?_⟩
      · obtain ⟨qual, params, body, scope, dV, kV, doc, pm, cdv, ct, oc, an, od, osl, N, la, lk, hc, S, hb, hk, hm, hkp, h1, _⟩ := h.ok
        unfold runF
        rw [if_neg fun z => hne (by rw [z.1, h1])]
      · obtain ⟨qual, params, body, scope, dV, kV, doc, pm, cdv, ct, oc, an, od, osl, N, la, lk, hc, S, hb, hk, hm, hkp, _⟩ := h.ok
        exact hm
      · obtain ⟨qual, params, body, scope, dV, kV, doc, pm, cdv, ct, oc, an, od, osl, N, la, lk, hc, S, hb, hk, hm, hkp, _⟩ := h.ok
        exact hkp
    exact ⟨fn, S.cl, S.con, S.cau, S.no, S.ty, S.fldN, S.fld, fun f hf => by
      obtain ⟨e, he, hgu⟩ := S.cx f hf
      have := fn f e he
      rw [hgu] at this
      exact ⟨_, _, _, this⟩⟩
end
end VM
set_option Elab.async false
set_option linter.all false
set_option maxRecDepth 100000
set_option maxHeartbeats 1000000
/-! VmZs: the end: a law's row from the machine code's meaning. -/
namespace VM
open PySem PySem.Spec L2 LamX PyProof.Rows
section
variable {P : Program} {w : World} {K : PySem.W.Frag} {mg mb : Str → Option Value} {k : Nat} {fa a : Addr} {cs : List (Addr × Addr)} {fd : FuncData} {x : Str} {sp : Sp} {s : Shared} {vs : List Value} {ns : List Int} {gu : Bool}
/-- the heap as it is tracked at the law's call: the tables, the script -/
def H0 (K : PySem.W.Frag) (Ts : List Addr) (a : Addr) (vs : List Value) (ns : List Int) : Hp := fun b =>
  if b ∈ Ts then some (.tbl #[]) else if b = a ∧ K.lookup a = none then some (.frz { cls := .type "list", data := .seq vs.toArray } (.lst (ns.map V.int))) else none
theorem H0_t {Ts : List Addr} {b : Addr} (h : b ∈ Ts) : H0 K Ts a vs ns b = some (.tbl #[]) := if_pos h
theorem H0_n {Ts : List Addr} {b : Addr} (h : b ∉ Ts) (h2 : b ≠ a) : H0 K Ts a vs ns b = none := (if_neg h).trans (if_neg fun z => h2 z.1)
theorem H0_k {Ts : List Addr} {b : Addr} (h : b ∉ Ts) (h2 : K.lookup a ≠ none) : H0 K Ts a vs ns b = none := (if_neg h).trans (if_neg fun z => h2 z.2)
theorem H0_a {Ts : List Addr} (h : a ∉ Ts) (h2 : K.lookup a = none) : H0 K Ts a vs ns a = some (.frz { cls := .type "list", data := .seq vs.toArray } (.lst (ns.map V.int))) := (if_neg h).trans (if_pos ⟨rfl, h2⟩)
theorem H0_out {Ts : List Addr} {b : Addr} {u : HO} (e : H0 K Ts a vs ns b = some u) : (b ∈ Ts ∧ u = .tbl #[]) ∨ (b ∉ Ts ∧ b = a ∧ K.lookup a = none ∧ u = .frz { cls := .type "list", data := .seq vs.toArray } (.lst (ns.map V.int))) := by
  by_cases h : b ∈ Ts
  · rw [H0_t h] at e; cases e; exact .inl ⟨h, rfl⟩
  · by_cases h2 : b = a ∧ K.lookup a = none
    · have z : H0 K Ts a vs ns b = some _ := (if_neg h).trans (if_pos h2)
      rw [e] at z; cases z; exact .inr ⟨h, h2.1, h2.2, rfl⟩
    · have z : H0 K Ts a vs ns b = none := (if_neg h).trans (if_neg h2)
      rw [e] at z; cases z
theorem law_callV (KX : K.In s.heap) (hmg : s.heap.Ns mainGlobals mg) (hmb : s.heap.Ns builtinsNs mb) (hbb : ∀ x : Str, x ≠ "__name__" → mb x = bootBuiltins x) (hlim : s.heap.NoLimit) (hg : s.gens = #[])
    (hT : ∀ p ∈ cs, s.heap.get? p.2 = some ⟨.none, none, .fields #[], #[]⟩) (nT : ∀ p ∈ cs, K.lookup p.2 = none) (hC : ∀ p ∈ cs, PySem.W.CodeHd s.heap p.1 p.2)
    (hbm : ∃ (bm : Addr) (ob : Obj), mg "__builtins__" = some (.ref bm) ∧ bm ≠ builtinsNs ∧ s.heap.get? bm = some ob ∧ ob.cls = .type "module" ∧ ob.dict = some builtinsNs ∧ ob.data = .plain)
    (ha : s.heap.get? a = some { cls := .type "list", data := .seq vs.toArray }) (hi : IntsAre vs ns) (hl : ns.length ≤ sizeLine) (hr : Room k callerA)
    (F : ∀ base : Heap, K.In base → base.Ns mainGlobals mg → (∀ p ∈ cs, TabB base mg p.1 p.2) → FnG gu P w K mg base (L2.CX P w) k fa fd [x] sp) (hb : ∀ (s : Shared) (u : Value), BindsTo s fd ⟨[u], []⟩ [(x, u)])
    (hsp : ∀ H : Hp, (∀ p ∈ cs, H p.2 = some (.tbl #[])) → SqL K H a (ns.map V.int) → sp [.ref a] H (fun v _ => v = .bl true) fun _ _ _ => False)
    (hCX : ∀ H e s', L2.CX P w [] H s (fun _ _ _ => False) e s' → False) :
    codeAny (model P w) callerA (.call (.ref fa) ⟨[.ref a], []⟩) (fun r s' => r = .ok (.ret (.bool true)) ∧ OldK s.heap s'.heap ∧ s'.os = s.os ∧ AllBare s'.gens) s := by
  obtain ⟨Ts, hTs⟩ : ∃ Ts, Ts = cs.map (·.2) := ⟨_, rfl⟩
  have mem : ∀ p ∈ cs, p.2 ∈ Ts := fun p hp => hTs ▸ List.mem_map.mpr ⟨p, hp, rfl⟩
  have inv : ∀ b ∈ Ts, ∃ p ∈ cs, p.2 = b := fun b z => by rw [hTs] at z; exact List.mem_map.mp z
  have tab : ∀ b ∈ Ts, s.heap.get? b = some ⟨.none, none, .fields #[], #[]⟩ := fun b z => by
    obtain ⟨p, hp, rfl⟩ := inv b z
    exact hT p hp
  have aT : a ∉ Ts := fun z => by
    have q := (tab a z).symm.trans ha
    cases congrArg (fun o : Obj => o.data) (Option.some.inj q)
  obtain ⟨H, eH⟩ : ∃ H : Hp, H = H0 K Ts a vs ns := ⟨_, rfl⟩
  have hok : HOk P w H s.heap := fun b u e => by
    rw [eH] at e
    rcases H0_out e with ⟨z, rfl⟩ | ⟨_, rfl, _, rfl⟩
    · exact tab b z
    · exact ⟨ha, by rw [List.length_map]; exact hl, vs, _, vals_ints hi, ha⟩
  have sq : SqL K H a (ns.map V.int) := by
    cases hk : K.lookup a with
    | none => exact .inl (.inr ⟨_, by rw [eH]; exact H0_a aT hk⟩)
    | some o =>
      have e := KX a o hk
      rw [ha] at e
      cases e
      refine .inr ⟨_, vs.toArray, _, hk, rfl, rfl, rfl, ?_, by simpa using vals_ints hi⟩
      rw [List.size_toArray, hi.length]
      exact hl
  -- what is neither a table nor the script is in the base
  have away : ∀ {b : Addr} {o : Obj}, s.heap.get? b = some o → (∀ xs n, o.data ≠ .seq xs n) → o.data ≠ .fields #[] → H b = none := fun {b o} e n1 n2 => by
    have hbT : b ∉ Ts := fun z => by
      have q := (tab b z).symm.trans e
      exact n2 (congrArg (fun o : Obj => o.data) (Option.some.inj q)).symm
    have hba : b ≠ a := fun z => by
      rw [z] at e
      have q := ha.symm.trans e
      exact n1 _ _ (congrArg (fun o : Obj => o.data) (Option.some.inj q)).symm
    rw [eH]
    exact H0_n hbT hba
  have into : ∀ {b : Addr} {o : Obj}, s.heap.get? b = some o → H b = none → (hidT s.heap H).get? b = some o := fun {b o} e1 e2 => hidT_get (b := b) e1 e2
  have ofDict : ∀ {b : Addr} {o : Obj} {es : Array DictEntry} {n : Nat}, s.heap.get? b = some o → o.data = .dict es n → H b = none := fun {b o es n} e d =>
    away e (fun xs n z => by rw [d] at z; cases z) (fun z => by rw [d] at z; cases z)
  have ns_in : ∀ {b : Addr} {m : Str → Option Value}, s.heap.Ns b m → (hidT s.heap H).Ns b m := fun {b m} h => by
    obtain ⟨o, es, n, e, d, r⟩ := h
    exact ⟨o, es, n, into e (ofDict e d), d, r⟩
  have K_in : K.In (hidT s.heap H) := fun b o e => by
    refine into (KX b o e) ?_
    rw [eH]
    have nb : b ∉ Ts := fun z => by
      obtain ⟨p, hp, rfl⟩ := inv b z
      rw [nT p hp] at e
      cases e
    by_cases q : b = a
    · refine H0_k nb ?_
      rw [← q, e]
      exact fun z => by cases z
    · exact H0_n nb q
  have TBs : ∀ p ∈ cs, TabB (hidT s.heap H) mg p.1 p.2 := fun p hp => by
    obtain ⟨og, esg, ng, eg, dg, rg⟩ := hmg
    refine ⟨?_, ?_, fun z => ?_⟩
    · obtain ⟨o, us, file, tf, flags, tg, inF, text, tt, e1, r1, r2, r3, r⟩ := hC p hp
      refine ⟨o, us, file, tf, flags, tg, inF, text, tt, into e1 (away e1 (fun xs n z => ?_) fun z => ?_), r1, r2, r3, r⟩
      · rw [r2] at z; cases z
      · rw [r2] at z; cases z; simp at r3
    · obtain ⟨bm, ob, b1, b2, b3, b4, b5, b6⟩ := hbm
      refine ⟨bm, ob, b1, b2, fun z => ?_, fun z => ?_, into b3 (away b3 (fun xs n z => ?_) fun z => ?_), b4, b5, b6⟩
      · rw [z, eg] at b3; cases b3; rw [dg] at b6; cases b6
      · rw [z, hT p hp] at b3; cases b3; cases b6
      · rw [b6] at z; cases z
      · rw [b6] at z; cases z
    · rw [z, hT p hp] at eg; cases eg; cases dg
  have md : L2.Mod K mg (hidT s.heap H) := by
    refine ⟨K_in, ns_in hmg, ⟨mb, ns_in hmb, hbb⟩, ?_⟩
    obtain ⟨mc, q1, q2⟩ := hlim
    exact ⟨mc, ns_in q1, q2⟩
  have env : Env0 P w K mg (hidT s.heap H) callerA [] s H := by
    refine ⟨rfl, md, fun b o e => of_hidT e, ?_, trivial, fun b z => ?_, hok, .of_eq hg⟩
    · rw [hidT_size]; exact Nat.le_refl _
    · cases z
  have run := (F _ K_in (ns_in hmg) TBs).run callerA [] s H ⟨[.ref a], []⟩ [.ref a] [.ref a] _ _ hr (fun _ => rfl) env (hb s (.ref a)) (.cons rfl .nil) (hsp H (fun p hp => by rw [eH]; exact H0_t (mem p hp)) sq)
  refine codeAny_mono run fun r s' h => ?_
  match r, h with
  | .error e, h => exact (hCX H e s' h).elim
  | .ok .next, h => exact h.elim
  | .ok .brk, h => exact h.elim
  | .ok .cont, h => exact h.elim
  | .ok (.ret u), h =>
    obtain ⟨v, H', os, bare, un, hok', rv, q⟩ := h
    have q : v = .bl true := q
    subst q
    have eu : u = Value.bool true := rv
    subst eu
    have stay : ∀ b o, b ∉ Ts → s.heap.get? b = some o → s'.heap.get? b = some o := fun b o nb e => by
      cases q : H b with
      | none => exact un.keep b o e q (fun z => by cases z) (by simp)
      | some u =>
        have q0 := q
        rw [eH] at q
        rcases H0_out q with ⟨z, _⟩ | ⟨_, rfl, _, rfl⟩
        · exact absurd z nb
        · obtain ⟨e1, _⟩ := hok _ _ q0
          obtain ⟨e2, _⟩ := hok' _ _ (un.frzs _ _ _ q0)
          rw [e] at e1
          cases e1
          exact e2
    have grow : ∀ b ∈ Ts, ∃ more : Array Value, s'.heap.get? b = some ⟨.none, none, .fields more, #[]⟩ := fun b z => by
      obtain ⟨more, q⟩ := un.tbls b #[] (by rw [eH]; exact H0_t z)
      exact ⟨_, hok' b _ q⟩
    refine ⟨rfl, ⟨fun b o e => ?_, fun b o e => ?_⟩, os, bare⟩
    · by_cases z : b ∈ Ts
      · obtain ⟨more, q⟩ := grow b z
        obtain ⟨p, hp, rfl⟩ := inv b z
        rw [hT p hp] at e
        cases e
        exact .inr (.inl ⟨((hC p hp).tab (hT p hp)).isCodeTable, rfl, #[], more, rfl, by rw [Array.empty_append]; exact q⟩)
      · exact .inl (stay b o z e)
    · by_cases z : b ∈ Ts
      · obtain ⟨more, q⟩ := grow b z
        exact ⟨_, q⟩
      · exact ⟨o, stay b o z e⟩
end
end VM
set_option Elab.async false
set_option linter.all false
set_option maxRecDepth 100000
set_option maxHeartbeats 1000000
/-! VmZt: a law's row from the machine code's meaning: the last step. -/
namespace VM
open PySem PySem.Spec L2 LamX PyProof.Rows
theorem fn_stepAt {Z : Zed} {C : Cfg} {T : Tab} {Φ : Phi} {k i : Nat} {e : FnT} {fd : Fd} (t : TabOk Z C Φ k T) (h : FnK Z T i e fd) {fdd : FuncData} {oc : Value} {od : Option Addr} {osl : Array (Option Value)} (l : Z.K.lookup (Z.fa i) = some ⟨oc, od, .func fdd, osl⟩) :
    FnG e.gu Z.P Z.w Z.K Z.mg Z.base (L2.CX Z.P Z.w) (k + 3) (Z.fa i) fdd e.ps (spF Z e.ps.length (runF C Φ fd)) ∧ L2.Binds Z.K fdd e.ps [] := by
  obtain ⟨qual, params, body, scope, dV, kV, doc, pm, cdv, ct, oc', an, od', osl', N, la, lk, hc, S, hb, hk, hm, hkp, h1, h2, hchk, hla⟩ := h.ok
  rw [lk] at l
  cases l
  refine ⟨?_, hb⟩
  refine fn_ofG (k := k + 2) lk hc S (fun vs H Q E sp => sp.1) ?_
  intro A outer s H vs Q E hr hg sp
  exact fn_body t S hr hg h1 h2 hchk hla sp
/-- what the script's list is, as data -/
theorem gg_start {Z : Zed} {H : Hp} {a : Addr} {ns : List Int} {w0 : Dw} (hw : w0.on = false) (hS : SqL Z.K H a (ns.map V.int)) (hT : ∀ p ∈ Z.T, H p.1 = some (.tbl #[])) : ∃ G, Gg Z G H w0 ∧ RpL Z G [.ref a] [.scr (ns.map D.int)] := by
  have tb : LamX.Tabs Z.T H := fun p hp => .nil (hT p hp)
  have dw : ∀ G : Hp, (∀ b o, G b = some o → isMk o = false) → DwOk Z G H w0 := fun G h => by
    unfold DwOk
    rw [if_neg (by rw [hw]; exact Bool.false_ne_true)]
    exact h
  have one : ∀ u : HO, H a = some u → isMk u = false → (∀ ps, u ≠ .tbl ps) → Gg Z (fun b => if b = a then some u else none) H w0 := fun u e m n => by
    have key : ∀ b o, (if b = a then some u else none) = some o → b = a ∧ o = u := fun b o z => by
      by_cases q : b = a
      · rw [if_pos q] at z; cases z; exact ⟨q, rfl⟩
      · rw [if_neg q] at z; cases z
    refine ⟨fun b o z _ => ?_, fun b o z => ?_, fun b o z => ?_, fun b o z m' => ?_, dw _ fun b o z => ?_, tb⟩
    · obtain ⟨rfl, rfl⟩ := key b o z; exact e
    · obtain ⟨rfl, rfl⟩ := key b o z; exact n
    · obtain ⟨rfl, rfl⟩ := key b o z; rw [e]; exact fun z => by cases z
    · obtain ⟨rfl, rfl⟩ := key b o z; rw [m] at m'; cases m'
    · obtain ⟨rfl, rfl⟩ := key b o z; exact m
  rcases hS with (h | ⟨o, h⟩) | h
  · exact ⟨_, one _ h rfl (fun ps z => by cases z), .cons (.scr (.inl (.inl (if_pos rfl))) (RpL.ints ns)) .nil⟩
  · exact ⟨_, one _ h rfl (fun ps z => by cases z), .cons (.scr (.inl (.inr ⟨o, if_pos rfl⟩)) (RpL.ints ns)) .nil⟩
  · exact ⟨fun _ => none, ⟨fun _ _ z => (nomatch z), fun _ _ z => (nomatch z), fun _ _ z => (nomatch z), fun _ _ z => (nomatch z), dw _ fun _ _ z => (nomatch z), tb⟩, .cons (.scr (.inr h) (RpL.ints ns)) .nil⟩
def w00 : Dw := ⟨false, [], .non, .non, .non⟩
/-- what a law's proof says of the program's text: li, the law's own def -/
structure LawV (l : PySem.W.OpenLaw) (w : World) (K : PySem.W.Frag) (n : Nat) (x : Str) (mg : Str → Option Value) (fl : Addr) (ts : List Addr) : Prop where
  ex : ∃ (cs : List (Addr × Addr)) (T : Tab) (C : Cfg) (pr : List Fd) (fa ca : Nat → Addr) (fldN : Nat → List Str) (TT : List (Addr × Str)) (d li : Nat) (fdl : FuncData) (e : FnT) (fd : Fd) (oc : Value) (od : Option Addr) (osl : Array (Option Value)),
    (∀ p ∈ cs, p.2 ∈ ts) ∧ (∀ p ∈ cs, K.lookup p.2 = none) ∧ (∀ p ∈ cs, PySem.W.codeHdIn K p.1 p.2 = true) ∧ (∀ p ∈ TT, ∃ q ∈ cs, q.2 = p.1) ∧
    T.fns[li]? = some e ∧ e.ps = [x] ∧ pr[li]? = some fd ∧ fa li = fl ∧ K.lookup fl = some ⟨oc, od, .func fdl, osl⟩ ∧ (∀ (s : Shared) (u : Value), BindsTo s fdl ⟨[u], []⟩ [(x, u)]) ∧ Room (3 * d + 4) callerA ∧
    (∀ base : Heap, K.In base → base.Ns mainGlobals mg → (∀ p ∈ cs, TabB base mg p.1 p.2) → TabS ⟨l.prog, w, K, mg, base, fa, ca, fldN, TT⟩ C T ∧
      ∀ f e, T.fns[f]? = some e → ∃ fd, pr[f]? = some fd ∧ FnK ⟨l.prog, w, K, mg, base, fa, ca, fldN, TT⟩ T f e fd) ∧
    ∀ ns : List Int, ns.length ≤ n → (∀ z ∈ ns, Builtin.Int.intBits z ≤ 1048576) → ∃ w', den C pr (d + 1) li [.scr (ns.map D.int)] w00 = .ok (.v (.bl true)) w'
theorem walk_ofV {l : PySem.W.OpenLaw} {n : Nat} {q : Program} {loose : List Str} {XP : (Str → Option Value) → Heap → Prop} {d : DefRec} {K : Params → PySem.W.Frag} {as : List Addr} {e : ∀ P, as = (K P).map (·.1)} {ts : List Addr} {x : Str}
    (hn : l.most = some n) (hn2 : n ≤ sizeLine) (hdf : d.params.defaults = [])
    (F : ∀ (w : World) (mg : Str → Option Value) (fl : Addr) (h : Heap), (K w.params).In h → h.Ns mainGlobals mg → mg d.name = some (.ref fl) → LawV l w (K w.params) n x mg fl ts) :
    PySem.W.WalkO q loose XP (PySem.W.kmHook K as e ts).says l.row.toRowW d [] (fun f vs => PySem.call f vs) := by
  refine Att.attach_callB hn hdf fun w s₀ s₁ mg mb fl o pm cd doc a vs ns G Y ho hd hcd hmg hobj hints hlen hbits hg => ?_
  have KX := PySem.W.km_in_of Y
  have KT := PySem.W.km_tabs_of Y
  obtain ⟨cs, T, C, pr, fa, ca, fldN, TT, dd, li, fdl, en, fd, oc, od, osl, c1, c2, c3, c4, hT, hps, hpr, hfl, hlk, hbt, hr, hB, hD⟩ := (F w mg fl _ KX G.T.g hmg).ex
  obtain ⟨nm, gu, ps, kt⟩ := en
  have hps : ps = [x] := hps
  subst hps
  refine law_callV (cs := cs) (sp := fun vs H Q E => ∃ (a : Addr) (ns : List Int), vs = [.ref a] ∧ ns.length ≤ n ∧ (∀ z ∈ ns, Builtin.Int.intBits z ≤ 1048576) ∧ (∀ p ∈ cs, H p.2 = some (.tbl #[])) ∧ SqL (K w.params) H a (ns.map V.int) ∧ ∀ H', Q (.bl true) H')
    (gu := gu) KX G.T.g G.T.b G.T.builtins G.T.nolimit hg (fun p hp => KT p.2 (c1 p hp)) c2 (fun p hp => PySem.W.codeHd_of_K KX (c3 p hp)) G.T.bmain hobj hints (Nat.le_trans hlen hn2) hr (fun base b1 b2 b3 => ?_) hbt
    (fun H h1 h2 => ⟨a, ns, rfl, hlen, hbits, h1, h2, fun _ => rfl⟩) (fun H e s' h => ?_)
  · obtain ⟨tS, hF⟩ := hB base b1 b2 b3
    have tok := prog_ok tS hF dd
    obtain ⟨fd', hpr', fk⟩ := hF li _ hT
    rw [hpr] at hpr'
    cases hpr'
    have key := (fn_stepAt tok fk (fdd := fdl) (by show (K w.params).lookup (fa li) = _; rw [hfl]; exact hlk)).1
    rw [show (⟨l.prog, w, K w.params, mg, base, fa, ca, fldN, TT⟩ : Zed).fa li = fl from hfl] at key
    refine ⟨fun vs H Q E hs => ?_, fun A outer s H args us vs Q E r g e0 bt vl hs => key.run A outer s H args us vs Q E r g e0 bt vl ?_⟩
    · obtain ⟨a, ns, rfl, _⟩ := hs
      rfl
    · obtain ⟨a, ns, rfl, n1, n2, n3, n4, n5⟩ := hs
      obtain ⟨G', g1, g2⟩ := gg_start (Z := ⟨l.prog, w, K w.params, mg, base, fa, ca, fldN, TT⟩) (w0 := w00) rfl n4 (fun p hp => by
        obtain ⟨q, hq, e⟩ := c4 p hp
        rw [← e]
        exact n3 q hq)
      refine ⟨rfl, G', _, w00, g1, g2, ?_⟩
      obtain ⟨w', ew⟩ := hD ns n1 n2
      have ed : runF C (den C pr dd) fd [.scr (ns.map D.int)] w00 = .ok (.v (.bl true)) w' := by
        rw [← ew]
        show _ = (match pr[li]? with | some fd => runF C (den C pr dd) fd [.scr (ns.map D.int)] w00 | none => .bad)
        rw [hpr]
      rw [ed]
      intro v G2 H2 _ _ rr
      have ev : v = .bl true := rr_bl rr
      rw [ev]
      exact n5 H2
  · obtain ⟨_, _, _, _, _, _, _, _, _, _, _, _, z⟩ := h
    exact z
end VM
set_option Elab.async false
set_option linter.all false
set_option maxRecDepth 100000
set_option maxHeartbeats 1000000
/-! VmZu: what the top has written, as the check's table wants it. -/
namespace VM
open PySem PySem.Spec L2 LamX PyProof.Rows PySem.F
theorem prb {K : PySem.W.Frag} {h : Heap} (X : K.In h) {x : Str} {a : Addr} (e : PySem.W.nsIn K mainGlobals x = some (some (.ref a))) : PySem.W.nsIn K mainGlobals x = some (some (.ref a)) := e
theorem prc {K : PySem.W.Frag} {h : Heap} (X : K.In h) {f : Addr} {oc : Value} {od : Option Addr} {sl : Array (Option Value)} {n q : Str} {pa : Arguments} {bo : List Stmt} {sc : Scope} {dV kV dc pm cd ct : Value} {an : Option Addr}
    (l : K.lookup f = some ⟨oc, od, .func (PySem.W.fnOf n q pa bo sc dV kV dc pm an cd ct), sl⟩) : cd = cd := rfl
theorem prl {K : PySem.W.Frag} {h : Heap} (X : K.In h) {f : Addr} {o : Obj} (l : K.lookup f = some o) : K.lookup f = some o := l
theorem pri {K : PySem.W.Frag} {h : Heap} (X : K.In h) {C f : Addr} (e : PySem.W.findIn K (.ref C) "__init__" = some (some (.ref f))) : f = f := rfl
/-- P of each, with its place -/
def AllI {α : Type} (P : Nat → α → Prop) : Nat → List α → Prop
  | _, [] => True
  | i, a :: l => P i a ∧ AllI P (i + 1) l
theorem AllI.get {α : Type} {P : Nat → α → Prop} : ∀ {l : List α} {i j : Nat} {a : α}, AllI P i l → l[j]? = some a → P (i + j) a
  | [], _, _, _, _, e => by simp at e
  | b :: l, i, 0, a, h, e => by simp at e; subst e; exact h.1
  | b :: l, i, j + 1, a, h, e => by
    have := AllI.get (i := i + 1) (j := j) (a := a) h.2 (by simpa using e)
    rwa [show i + 1 + j = i + (j + 1) by omega] at this
theorem AllI.get0 {α : Type} {P : Nat → α → Prop} {l : List α} {j : Nat} {a : α} (h : AllI P 0 l) (e : l[j]? = some a) : P j a := by
  have := AllI.get h e
  rwa [Nat.zero_add] at this
theorem look_mem {β : Type} : ∀ {l : List (Str × β)} {x : Str} {d : β}, l.lookup x = some d → (x, d) ∈ l
  | [], _, _, e => by simp at e
  | (y, b) :: l, x, d, e => by
    rw [List.lookup_cons] at e
    split at e
    · rename_i q
      cases e
      rw [beq_iff_eq.mp q]
      exact List.mem_cons_self
    · exact List.mem_cons_of_mem _ (look_mem e)
/-- a def as the top has written it -/
structure FnAt (K : PySem.W.Frag) (mg : Str → Option Value) (x : Str) (st : Stmt) (f : Addr) (cd : Value) : Prop where
  mg : mg x = some (.ref f)
  kp : PySem.W.keepIn K (.ref f) = true
  hcd : PySem.W.codeIn K cd x = true
  lk : ∃ (oc kV dc pm ct : Value) (od an : Option Addr) (sl : Array (Option Value)), K.lookup f = some ⟨oc, od, .func (PySem.W.fnOf x x (defArgs st) (defBody st) (defScope st) .none kV dc pm an cd ct), sl⟩
theorem fnAt_mk {K : PySem.W.Frag} {h : Heap} {mg : Str → Option Value} {x : Str} {st : Stmt} {f : Addr} {cd oc kV dc pm ct : Value} {od an : Option Addr} {sl : Array (Option Value)} (X : K.In h) (G : h.Ns mainGlobals mg)
    (a : PySem.W.nsIn K mainGlobals x = some (some (.ref f))) (l : K.lookup f = some ⟨oc, od, .func (PySem.W.fnOf x x (defArgs st) (defBody st) (defScope st) .none kV dc pm an cd ct), sl⟩) (c : PySem.W.codeIn K cd x = true) (k : PySem.W.keepIn K (.ref f) = true) : FnAt K mg x st f cd :=
  ⟨PySem.W.mg_of X G a, k, c, _, _, _, _, _, _, _, _, l⟩
theorem fnK_of {Z : Zed} {T : Tab} {i : Nat} {e : FnT} {fd : Fd} {st : Stmt} {cd : Value} {N : List Str} {la : Bool} (F : FnAt Z.K Z.mg e.nm st (Z.fa i) cd) (S : FnScope N e.ps (defScope st))
    (hb : ∀ (kV dc pm : Value) (an : Option Addr) (cdv ct : Value) (us : List Value), us.length = e.ps.length → bindArgs (PySem.W.fnOf e.nm e.nm (defArgs st) (defBody st) (defScope st) .none kV dc pm an cdv ct) ⟨us, []⟩ = pure (e.ps.zip us))
    (hk : ∀ (kV dc pm : Value) (an : Option Addr) (cdv ct : Value), KwOk (PySem.W.fnOf e.nm e.nm (defArgs st) (defBody st) (defScope st) .none kV dc pm an cdv ct) e.ps e.kt)
    (h1 : fd.np = e.ps.length) (h2 : fd.nn = N.length) (hc : chkSs T N fd.body ⟨la, e.gu, defScope st⟩ (defBody st) = true)
    (hl : la = true → ∃ c P, TabB Z.base Z.mg c P ∧ cd = .ref c ∧ (P, (envOfC e.nm (defScope st) 0 0 cd).qual ++ "<lambda>") ∈ Z.T ∧ ∀ p ∈ Z.T, p.1 = P → p.2 = (envOfC e.nm (defScope st) 0 0 cd).qual ++ "<lambda>") : FnK Z T i e fd := by
  obtain ⟨oc, kV, dc, pm, ct, od, an, sl, lk⟩ := F.lk
  exact ⟨⟨e.nm, defArgs st, defBody st, defScope st, .none, kV, dc, pm, cd, ct, oc, an, od, sl, N, la, lk, F.hcd, S, .all fun us hu => hb kV dc pm an cd ct us hu, hk kV dc pm an cd ct, F.mg, F.kp, h1, h2, hc, hl⟩⟩
/-- a class of errors as the top has written it -/
structure ClAt (K : PySem.W.Frag) (mg : Str → Option Value) (x : Str) (C : Addr) : Prop where
  mg : mg x = some (.ref C)
  kp : PySem.W.keepIn K (.ref C) = true
  sb : PySem.W.subIn K (.ref C) (.type "BaseException") = some true
  ty : PySem.W.typeIn K (.ref C) = some (.type "type")
  ex : L2.ExcC K C
theorem clAt_mk {K : PySem.W.Frag} {h : Heap} {mg : Str → Option Value} {x : Str} {C : Addr} (X : K.In h) (G : h.Ns mainGlobals mg) (a : PySem.W.nsIn K mainGlobals x = some (some (.ref C))) (k : PySem.W.keepIn K (.ref C) = true)
    (s : PySem.W.subIn K (.ref C) (.type "BaseException") = some true) (t : PySem.W.typeIn K (.ref C) = some (.type "type")) (e : L2.ExcC K C) : ClAt K mg x C := ⟨PySem.W.mg_of X G a, k, s, t, e⟩
theorem clI_plain {Z : Zed} {c : Nat} {x : Str} (A : ClAt Z.K Z.mg x (Z.ca c)) (q : PySem.W.excIn Z.K (Z.ca c) [.type "ValueError", .type "Exception", .type "BaseException", .type "object"] "ValueError.__new__" = true) (h : Z.fldN c = []) : ClI Z c x :=
  ⟨A.mg, A.kp, .inl ⟨h, A.sb, A.ty, _, _, _, _, PySem.F.excBase_ValueError, q⟩⟩
theorem clI_init {Z : Zed} {c : Nat} {x f x' : Str} {fI : Addr} (A : ClAt Z.K Z.mg x (Z.ca c)) (h : Z.fldN c = [f]) (I : InitC Z.P Z.K (Z.ca c) fI f x') : ClI Z c x := ⟨A.mg, A.kp, .inr ⟨fI, f, x', h, I⟩⟩
theorem initC_mk {P : Program} {K : PySem.W.Frag} {C fI : Addr} {f x : Str} {name qual : Str} {params : Arguments} {scope : Scope} {dV kV doc pm ct oc : Value} {an od : Option Addr} {osl : Array (Option Value)} {cda cc : Addr} {msg slf : Str} {j : Nat} {p0 p1 p2 p3 p4 p5 q0 q1 q2 q3 : Pos} {vs : Array Value} {file : Str} {tf : Tok}
    {ccl cl : Value} {cdd cld : Option Addr} {ccs csl : Array (Option Value)} {ar : Arg}
    (T : L2.OexC K C) (iC : PySem.W.findIn K (.ref C) "__init__" = some (some (.ref fI)))
    (lk : K.lookup fI = some ⟨oc, od, .func (PySem.W.ksFn name qual params (initBody msg slf f x j p0 p1 p2 p3 p4 p5 q0 q1 q2 q3) scope dV kV doc pm an (.ref cda) ct cc), osl⟩) (hcd : PySem.W.codeIn K (.ref cda) qual = true)
    (lc : K.lookup cda = some ⟨ccl, cdd, .fields vs, ccs⟩) (hv : vs[2]? = some (.str file tf)) (hf : ((P.main.file : Str) == file) = true) (lcc : K.lookup cc = some ⟨cl, cld, .cell (some (.ref C)), csl⟩)
    (tI : PySem.W.typeIn K (.ref fI) = some (.type "function")) (no : PySem.W.findIn K (.ref C) f = some none) (sup : PySem.W.ks_superIn K C C "__init__" = some (some (.builtin "ValueError.__init__")))
    (isV : PySem.W.subIn K (.ref C) (.type "ValueError") = some true) (self : PySem.W.mroIn K C (.ref C) = some true) (opq : PySem.W.nsIn K cStatics "thirdparty.any" = some none) (sp : PySem.W.nsIn K mainGlobals "super" = some none)
    (top : (P.main.scope.names.lookup ("super" : Str)).isSome = false)
    (h1 : (params.posonlyargs ++ params.args).head? = some ar) (h2 : ar.arg = slf) (h3 : slf ≠ x) (h4 : (slf == ("__debug__" : Str)) = false) (h5 : (x == ("__debug__" : Str)) = false)
    (h6 : ∀ u v : Value, bindArgs (PySem.W.ksFn name qual params (initBody msg slf f x j p0 p1 p2 p3 p4 p5 q0 q1 q2 q3) scope dV kV doc pm an (.ref cda) ct cc) ⟨[u, v], []⟩ = pure [(slf, u), (x, v)])
    (h7 : ∀ y ∈ scope.names, y.2 ≠ .cell) (h8 : scope.isCoroutine = false) (h9 : scope.isGenerator = false) (h10 : scope.kind = .function)
    (h11 : scope.names.lookup ("super" : Str) = some .globalImplicit) (h12 : scope.names.lookup ("__class__" : Str) = some .free) (h13 : scope.names.lookup slf = some .local) (h14 : scope.names.lookup x = some .local) (h15 : SupEv msg j p0 p1 p2 p3 p4) : InitC P K C fI f x :=
  ⟨T, iC, tI, no, sup, isV, self, opq, sp, top, name, qual, params, scope, dV, kV, doc, pm, ct, oc, an, od, osl, cda, cc, msg, slf, j, p0, p1, p2, p3, p4, p5, q0, q1, q2, q3, vs, file, tf, ccl, cl, cdd, cld, ccs, csl, ar,
    lk, hcd, lc, hv, hf, lcc, h1, h2, h3, h4, h5, h6, h7, h8, h9, h10, h11, h12, h13, h14, h15⟩
theorem oexC_mk {K : PySem.W.Frag} {h : Heap} {C : Addr} {nm q : Str} {N : Addr} {bs bm : List Value} {sn : List Str} {sub : List Value} {ab : Bool} {col : Option Bool} {dd : Option Addr} {k0 k1 k2 k3 k5 : Option Value}
    (X : K.In h) (l : K.lookup C = some (excClassObj nm q C N bs bm true sn sub ab col dd k0 k1 k2 k3 k5 "ValueError.__new__")) (r : PySem.HandSPX.refsVE bm = true)
    (sa : PySem.W.findIn K (.ref C) "__setattr__" = some (some (.builtin "object.__setattr__"))) (exC : PySem.W.subIn K (.ref C) (.type "BaseException") = some true) (tyC : PySem.W.typeIn K (.ref C) = some (.type "type")) (kC : PySem.W.keepIn K (.ref C) = true) : L2.OexC K C :=
  ⟨⟨nm, q, N, bs, bm, sn, sub, ab, col, dd, k0, k1, k2, k3, k5, l, r⟩, sa, exC, tyC, kC⟩
/-- the catcher as the top has written it; it catches the class at CS -/
structure CauAt (K : PySem.W.Frag) (mg : Str → Option Value) (x : Str) (CS : Addr) : Prop where
  ok : ∃ (g : Addr) (a v n e : Str) (sg : Scope) (pg : Arguments) (dV kV doc pm cdv ct oc : Value) (an od : Option Addr) (osl : Array (Option Value)) (j : Nat) (p1 p2 p3 p4 p5 p6 p7 p8 p9 q1 q2 q3 q4 q5 : Pos),
    mg x = some (.ref g) ∧ PySem.W.keepIn K (.ref g) = true ∧ K.lookup g = some ⟨oc, od, .func (PySem.W.fnOf x x pg (cauBody a v n e j p1 p2 p3 p4 p5 p6 p7 p8 p9 q1 q2 q3 q4 q5) sg dV kV doc pm an cdv ct), osl⟩ ∧
    PySem.W.codeIn K cdv x = true ∧ L2.Binds K (PySem.W.fnOf x x pg (cauBody a v n e j p1 p2 p3 p4 p5 p6 p7 p8 p9 q1 q2 q3 q4 q5) sg dV kV doc pm an cdv ct) [a] [] ∧ FnScope [a, v, n] [a] sg ∧
    sg.names.lookup e = some .globalImplicit ∧ mg e = some (.ref CS) ∧ ((e == ("__debug__" : Str)) = false ∧ sg.names.lookup a = some .local ∧ sg.names.lookup v = some .local ∧ sg.names.lookup n = some .local ∧ [a, v, n].Nodup ∧
    (v == ("__debug__" : Str)) = false ∧ (v == ("__classdict__" : Str)) = false ∧ (n == ("__debug__" : Str)) = false ∧ (n == ("__classdict__" : Str)) = false ∧ (a == ("__debug__" : Str)) = false ∧ (a == ("__classdict__" : Str)) = false)
theorem cauAt_mk {K : PySem.W.Frag} {mg : Str → Option Value} {x : Str} {h : Heap} {g CS : Addr} {a v n e : Str} {sg : Scope} {pg : Arguments} {kV doc pm cdv ct oc : Value} {an od : Option Addr} {osl : Array (Option Value)} {j : Nat} {p1 p2 p3 p4 p5 p6 p7 p8 p9 q1 q2 q3 q4 q5 : Pos}
    (X : K.In h) (G : h.Ns mainGlobals mg) (hx : PySem.W.nsIn K mainGlobals x = some (some (.ref g))) (lk : K.lookup g = some ⟨oc, od, .func (PySem.W.fnOf x x pg (cauBody a v n e j p1 p2 p3 p4 p5 p6 p7 p8 p9 q1 q2 q3 q4 q5) sg .none kV doc pm an cdv ct), osl⟩)
    (kp : PySem.W.keepIn K (.ref g) = true) (hc : PySem.W.codeIn K cdv x = true)
    (hg : PySem.W.nsIn K mainGlobals e = some (some (.ref CS)))
    (hb : ∀ us : List Value, us.length = [a].length → bindArgs (PySem.W.fnOf x x pg (cauBody a v n e j p1 p2 p3 p4 p5 p6 p7 p8 p9 q1 q2 q3 q4 q5) sg .none kV doc pm an cdv ct) ⟨us, []⟩ = pure ([a].zip us)) (S : FnScope [a, v, n] [a] sg)
    (he : sg.names.lookup e = some .globalImplicit)
    (h1 : (e == ("__debug__" : Str)) = false ∧ sg.names.lookup a = some .local ∧ sg.names.lookup v = some .local ∧ sg.names.lookup n = some .local ∧ [a, v, n].Nodup ∧
    (v == ("__debug__" : Str)) = false ∧ (v == ("__classdict__" : Str)) = false ∧ (n == ("__debug__" : Str)) = false ∧ (n == ("__classdict__" : Str)) = false ∧ (a == ("__debug__" : Str)) = false ∧ (a == ("__classdict__" : Str)) = false) : CauAt K mg x CS :=
  ⟨⟨g, a, v, n, e, sg, pg, .none, kV, doc, pm, cdv, ct, oc, an, od, osl, j, p1, p2, p3, p4, p5, p6, p7, p8, p9, q1, q2, q3, q4, q5, PySem.W.mg_of X G hx, kp, lk, hc, .all hb, S, he, PySem.W.mg_of X G hg, h1⟩⟩
theorem cauI_of {Z : Zed} {x : Str} {CS : Addr} {cas : List Addr} {nc : Nat} (A : CauAt Z.K Z.mg x CS) (hca : ∀ c, Z.ca c = cas.getD c 0) (hn : cas.length = nc) (e : (cas.all fun C => decide (PySem.W.exmOne Z.K (.ref C) (.ref CS) = some true)) = true) : CauI Z x fun c => decide (c < nc) := by
  obtain ⟨g, a, v, n, ee, sg, pg, dV, kV, doc, pm, cdv, ct, oc, an, od, osl, j, p1, p2, p3, p4, p5, p6, p7, p8, p9, q1, q2, q3, q4, q5, y1, y2, y3, y4, y5, y6, y7, y8, z1, z2, z3, z4, z5, z6, z7, z8, z9, z10, z11⟩ := A.ok
  refine ⟨⟨g, CS, a, v, n, ee, sg, pg, dV, kV, doc, pm, cdv, ct, oc, an, od, osl, j, p1, p2, p3, p4, p5, p6, p7, p8, p9, q1, q2, q3, q4, q5, y1, y2, y3, y4, y5, y6, y7, y8, z1, z2, z3, z4, z5, z6, z7, z8, z9, z10, z11, fun c hc => ?_⟩⟩
  have hc' : c < cas.length := by rw [hn]; exact of_decide_eq_true hc
  have h2 : cas[c]? = some (Z.ca c) := by rw [hca, List.getD_eq_getElem?_getD, List.getElem?_eq_getElem hc']; rfl
  exact of_decide_eq_true (List.all_eq_true.mp e _ (List.mem_of_getElem? h2))
theorem tyI_cls {Z : Zed} {sub : Nat → Nat → Option Bool} {t : Nat} {C : Addr} {nc : Nat} (hb : ∀ T ∈ ["NoneType", "bool", "int", "str", "tuple", "list", "dict"], PySem.W.kitOne Z.K (.type T) (.ref C) = some false) (hs : ∀ c r, sub c t = some r → c < nc)
    (he : ∀ c, c < nc → ∀ r, sub c t = some r → PySem.W.kitOne Z.K (.ref (Z.ca c)) (.ref C) = some r ∧ L2.ExcC Z.K (Z.ca c)) : TyI Z sub (.cls t) (.ref C) (.ref C) := by
  refine ⟨.own C, fun T r e => ?_, fun c c' r e1 e2 => ?_⟩
  · have hT := tyB_some e
    rw [hb T hT, ← e]
    have : tyB (.cls t) T = some false := by
      clear hb e hs he
      simp only [List.mem_cons, List.not_mem_nil, or_false] at hT
      rcases hT with rfl | rfl | rfl | rfl | rfl | rfl | rfl <;> rfl
    rw [this]
  · cases e1
    exact he c (hs c r e2) r e2
/-! ### facts of the heap by one look each -/
def bltN2 : List Str := bltNs ++ [("bool" : Str)]
def bltB (K : PySem.W.Frag) : Bool := bltN2.all fun x => decide (PySem.W.nsIn K mainGlobals x = some none)
theorem blt_of {K : PySem.W.Frag} {h : Heap} {mg : Str → Option Value} (X : K.In h) (G : h.Ns mainGlobals mg) (e : bltB K = true) : ∀ x ∈ bltN2, mg x = none := fun x hx =>
  PySem.W.mg_none_of X G (of_decide_eq_true (List.all_eq_true.mp e x hx))
def clsB (K : PySem.W.Frag) (x : Str) (C : Addr) : Bool :=
  decide (PySem.W.nsIn K mainGlobals x = some (some (.ref C))) && PySem.W.keepIn K (.ref C) && decide (PySem.W.subIn K (.ref C) (.type "BaseException") = some true) && decide (PySem.W.typeIn K (.ref C) = some (.type "type")) &&
  decide (PySem.W.findIn K (.ref C) "__getattribute__" = some (some (.builtin "BaseException.__getattribute__"))) && decide (PySem.W.findIn K (.ref C) "__getattr__" = some none) && PySem.W.hasDictIn K C &&
  decide (PySem.W.findIn K (.ref C) "__class__" = some (some (.builtin "object.__class__"))) && decide (PySem.W.specialIn K (.builtin "object.__class__") "__get__" = some (some (.builtin "getset_descriptor.__get__"))) &&
  decide (PySem.W.takesIn K (.builtin "object.__class__") = some true) && decide (PySem.W.mroIn K C (.type "object") = some true)
theorem clsAt_of {K : PySem.W.Frag} {h : Heap} {mg : Str → Option Value} {x : Str} {C : Addr} (X : K.In h) (G : h.Ns mainGlobals mg) (e : clsB K x C = true) : ClAt K mg x C := by
  unfold clsB at e
  simp only [Bool.and_eq_true, decide_eq_true_eq] at e
  obtain ⟨⟨⟨⟨⟨⟨⟨⟨⟨⟨e1, e2⟩, e3⟩, e4⟩, e5⟩, e6⟩, e7⟩, e8⟩, e9⟩, e10⟩, e11⟩ := e
  exact clAt_mk X G e1 e2 e3 e4 ⟨e5, e6, e3, e7, e8, e9, e10, e11⟩
theorem ClAt.xf {K : PySem.W.Frag} {mg : Str → Option Value} {x : Str} {C : Addr} (A : ClAt K mg x C) : L2.XfC K C := ⟨A.ex.hg, A.ex.hk, A.ex.hs, A.ex.hd⟩
def excB (K : PySem.W.Frag) (C : Addr) : Bool := PySem.W.excIn K C [.type "ValueError", .type "Exception", .type "BaseException", .type "object"] "ValueError.__new__"
/-- which of the classes cas are C, as the program's classes tell; none of the built-in types is -/
def kitB2 (K : PySem.W.Frag) (cas : List Addr) (C : Addr) (bs : List Bool) : Bool := (["NoneType", "bool", "int", "str", "tuple", "list", "dict"].all fun T => decide (PySem.W.kitOne K (.type T) (.ref C) = some false)) &&
  (cas.zip bs).all fun p => decide (PySem.W.kitOne K (.ref p.1) (.ref C) = some p.2)
theorem tyI_of {Z : Zed} {mg : Str → Option Value} {nms : List Str} {cas : List Addr} {sub : Nat → Nat → Option Bool} {t : Nat} {C : Addr} {bs : List Bool} (hca : ∀ c, Z.ca c = cas.getD c 0) (hcl : AllI (fun c x => ClAt Z.K mg x (Z.ca c)) 0 nms) (hn : nms.length = cas.length) (hb : bs.length = cas.length)
    (hs : ∀ c r, sub c t = some r → bs[c]? = some r) (e : kitB2 Z.K cas C bs = true) : TyI Z sub (.cls t) (.ref C) (.ref C) := by
  unfold kitB2 at e
  rw [Bool.and_eq_true] at e
  refine tyI_cls (nc := cas.length) (fun T hT => of_decide_eq_true (List.all_eq_true.mp e.1 T hT)) (fun c r q => ?_) fun c hc r q => ⟨?_, ?_⟩
  · rw [← hb]
    exact (List.getElem?_eq_some_iff.mp (hs c r q)).1
  · have h1 := hs c r q
    have h2 : cas[c]? = some (Z.ca c) := by rw [hca, List.getD_eq_getElem?_getD, List.getElem?_eq_getElem hc]; rfl
    have h3 : (cas.zip bs)[c]? = some (Z.ca c, r) := by rw [List.getElem?_zip_eq_some]; exact ⟨h2, h1⟩
    exact of_decide_eq_true (List.all_eq_true.mp e.2 _ (List.mem_of_getElem? h3))
  · obtain ⟨x, hx⟩ : ∃ x, nms[c]? = some x := ⟨_, List.getElem?_eq_getElem (by omega)⟩
    exact (hcl.get0 hx).ex
def exmB (K : PySem.W.Frag) (cas : List Addr) (CS : Addr) : Bool := cas.all fun C => decide (PySem.W.exmOne K (.ref C) (.ref CS) = some true)
theorem con_int {Z : Zed} {h : Heap} {x : Str} {i : Int} {t : Tok} (X : Z.K.In h) (G : h.Ns mainGlobals Z.mg) (e : PySem.W.nsIn Z.K mainGlobals x = some (some (.int i t))) : ∃ v u, Z.mg x = some u ∧ RelV v u ∧ ∀ G, Rp Z G v (.int i) :=
  ⟨.int i, _, PySem.W.mg_of X G e, ⟨t, rfl⟩, fun _ => .int i⟩
theorem con_fn {Z : Zed} {x : Str} {k : Nat} (e : Z.mg x = some (.ref (Z.fa k))) : ∃ v u, Z.mg x = some u ∧ RelV v u ∧ ∀ G, Rp Z G v (.fn k) := ⟨.ref (Z.fa k), _, e, rfl, fun _ => .fn k⟩
theorem ty_blt {Z : Zed} {sub : Nat → Nat → Option Bool} {t : Ty} {x : Str} (h : ∀ c, t ≠ .cls c) (hm : Z.mg x = none) (hb : bootBuiltins x = some (.type (tyNm t))) (hx : x ≠ "__name__") :
    ∃ cv u, TyI Z sub t cv u ∧ RelV cv u ∧ (Z.mg x = some u ∨ (Z.mg x = none ∧ bootBuiltins x = some u ∧ x ≠ "__name__")) := ⟨_, _, tyI_blt h, rfl, .inr ⟨hm, hb, hx⟩⟩
theorem ty_cls {Z : Zed} {sub : Nat → Nat → Option Bool} {t : Nat} {x : Str} {C : Addr} (h : TyI Z sub (.cls t) (.ref C) (.ref C)) (hm : Z.mg x = some (.ref C)) :
    ∃ cv u, TyI Z sub (.cls t) cv u ∧ RelV cv u ∧ (Z.mg x = some u ∨ (Z.mg x = none ∧ bootBuiltins x = some u ∧ x ≠ "__name__")) := ⟨_, _, h, rfl, .inl hm⟩
end VM
set_option Elab.async false
set_option linter.all false
set_option maxRecDepth 100000
/-! Rt: how the machine code is run, as rewriting rules. -/
namespace VM.R
open PySem
def Res.obind {α β : Type} (o : Option α) (k : α → Res β) : Res β := match o with
  | some a => k a
  | none => .bad
@[simp] theorem Res.obind_some {α β : Type} {a : α} {k : α → Res β} : Res.obind (some a) k = k a := (rfl)
@[simp] theorem Res.obind_none {α β : Type} {k : α → Res β} : Res.obind none k = .bad := (rfl)
theorem Res.obind_congr {α β : Type} {o o' : Option α} {k : α → Res β} (h : o = o') : Res.obind o k = Res.obind o' k := by rw [h]
theorem Res.bind_congr {α β : Type} {r r' : Res α} {k : α → Dw → Res β} (h : r = r') : r.bind k = r'.bind k := by rw [h]
def toDs (rs : List RV) : Option (List D) := rs.mapM RV.toD
@[simp] theorem toDs_nil : toDs [] = some [] := (rfl)
@[simp] theorem toDs_v {d : D} {l : List RV} : toDs (.v d :: l) = (toDs l).map (d :: ·) := by
  unfold toDs
  rw [List.mapM_cons]
  show (do let bs ← List.mapM RV.toD l; pure (d :: bs) : Option _) = _
  cases List.mapM RV.toD l <;> rfl
@[simp] theorem toDs_n {ds : List D} {l : List RV} : toDs (.n ds :: l) = (toDs l).map (.lst ds :: ·) := by
  unfold toDs
  rw [List.mapM_cons]
  show (do let bs ← List.mapM RV.toD l; pure (.lst ds :: bs) : Option _) = _
  cases List.mapM RV.toD l <;> rfl
theorem toDs_vs (ds : List D) : toDs (ds.map .v) = some ds := by
  induction ds with
  | nil => rfl
  | cons d ds ih => rw [List.map_cons, toDs_v, ih]; rfl
theorem toDs_vs2 (ds : List D) (l : List RV) : toDs (ds.map .v ++ l) = (toDs l).map (ds ++ ·) := by
  induction ds with
  | nil => cases h : toDs l <;> simp [h]
  | cons d ds ih => rw [List.map_cons, List.cons_append, toDs_v, ih]; cases toDs l <;> rfl
/-- b, then .. -/
def Res.cond {β : Type} (b : Bool) (x y : Res β) : Res β := if b then x else y
@[simp] theorem Res.cond_true {β : Type} {x y : Res β} : Res.cond true x y = x := (rfl)
@[simp] theorem Res.cond_false {β : Type} {x y : Res β} : Res.cond false x y = y := (rfl)
theorem Res.cond_congr {β : Type} {b b' : Bool} {x y : Res β} (h : b = b') : Res.cond b x y = Res.cond b' x y := by rw [h]
section
variable (C : Cfg) (Φ : Phi) (ρ : En) (w : Dw)
@[simp] theorem ev_k {d : D} : ev C Φ (.k d) ρ w = .ok (.v d) w := (rfl)
@[simp] theorem ev_emp : ev C Φ .emp ρ w = .ok (.v .emp) w := (rfl)
@[simp] theorem ev_x {i : Nat} : ev C Φ (.x i) ρ w = .opt (Sl.rv i ρ[i]?) w := (rfl)
@[simp] theorem ev_bin {o : BOp} {a b : E} : ev C Φ (.bin o a b) ρ w = (ev C Φ a ρ w).bind fun u w => (ev C Φ b ρ w).bind fun v w => .opt (opB o u v) w := (rfl)
@[simp] theorem ev_neg {a : E} : ev C Φ (.neg a) ρ w = (ev C Φ a ρ w).bind fun u w => .opt (u.int.map fun i => .v (.int (-i))) w := (rfl)
@[simp] theorem ev_not {a : E} : ev C Φ (.not a) ρ w = (ev C Φ a ρ w).bind fun u w => .opt (u.truthy.map fun b => .v (.bl (!b))) w := (rfl)
@[simp] theorem ev_cmp {o : COp} {a b : E} : ev C Φ (.cmp o a b) ρ w = (ev C Φ a ρ w).bind fun u w => (ev C Φ b ρ w).bind fun v w => .opt ((opC o u v).map fun b => .v (.bl b)) w := (rfl)
@[simp] theorem ev_ch2 {o p : COp} {a b c : E} : ev C Φ (.ch2 o p a b c) ρ w = (ev C Φ a ρ w).bind fun u w => (ev C Φ b ρ w).bind fun v w => Res.obind (opC o u v) fun t => Res.cond t ((ev C Φ c ρ w).bind fun z w => .opt ((opC p v z).map fun b => .v (.bl b)) w) (.ok (.v (.bl false)) w) := by
  show ((ev C Φ a ρ w).bind fun u w => (ev C Φ b ρ w).bind fun v w => _) = _
  congr 1; funext u w; congr 1; funext v w
  cases opC o u v with
  | none => rfl
  | some t => cases t <;> rfl
@[simp] theorem ev_boo {k : Bool} {es : Es} : ev C Φ (.boo k es) ρ w = evB C Φ k es ρ w := (rfl)
@[simp] theorem ev_ife {c a b : E} : ev C Φ (.ife c a b) ρ w = (ev C Φ c ρ w).bind fun u w => Res.obind u.truthy fun t => Res.cond t (ev C Φ a ρ w) (ev C Φ b ρ w) := by
  show ((ev C Φ c ρ w).bind fun u w => _) = _
  congr 1; funext u w
  cases u.truthy with
  | none => rfl
  | some t => cases t <;> rfl
@[simp] theorem ev_call {f : Nat} {as : Es} : ev C Φ (.call f as) ρ w = (evs C Φ as ρ w).bind fun rs w => Res.obind (toDs rs) fun ds => Φ f ds w := by
  show ((evs C Φ as ρ w).bind fun rs w => _) = _
  congr 1; funext u w
  unfold toDs
  cases u.mapM RV.toD <;> rfl
@[simp] theorem ev_callk {f : Nat} {as ks : Es} {ord : List Nat} : ev C Φ (.callk f as ks ord) ρ w = (evs C Φ as ρ w).bind fun rs w => Res.obind (toDs rs) fun ds => (evs C Φ ks ρ w).bind fun rs2 w => Res.obind (toDs rs2) fun es => Res.obind (reord ord (ds ++ es)) fun ds => Φ f ds w := by
  show ((evs C Φ as ρ w).bind fun rs w => _) = _
  congr 1; funext u w
  unfold toDs
  cases u.mapM RV.toD with
  | none => rfl
  | some ds =>
    show ((evs C Φ ks ρ w).bind fun rs w => _) = ((evs C Φ ks ρ w).bind fun rs w => _)
    congr 1; funext v w
    cases v.mapM RV.toD with
    | none => rfl
    | some es =>
      show (match reord ord (ds ++ es) with | none => _ | some ds => _) = Res.obind (reord ord (ds ++ es)) _
      cases reord ord (ds ++ es) <;> rfl
/-- the def that a slot holds -/
def Sl.fn : Option Sl → Option Nat
  | some (.v (.fn f)) => some f
  | _ => none
@[simp] theorem ev_callx {i : Nat} {as : Es} : ev C Φ (.callx i as) ρ w = Res.obind (Sl.fn ρ[i]?) fun f => Res.cond (C.cx f) ((evs C Φ as ρ w).bind fun rs w => Res.obind (toDs rs) fun ds => Φ f ds w) .bad := by
  show (match ρ[i]? with
    | some (.v (.fn f)) => if C.cx f then (evs C Φ as ρ w).bind fun rs w => match rs.mapM RV.toD with
      | none => .bad
      | some ds => Φ f ds w
      else .bad
    | _ => .bad) = _
  split
  · rename_i f e
    rw [e]
    show _ = Res.cond (C.cx f) _ _
    unfold Res.cond
    split
    · congr 1; funext u w
      unfold toDs
      cases u.mapM RV.toD <;> rfl
    · rfl
  · rename_i h
    have : Sl.fn ρ[i]? = none := by
      unfold Sl.fn
      split
      · rename_i f e; exact absurd e (h f)
      · rfl
    rw [this]
    rfl
@[simp] theorem ev_bi {f : Bi} {as : Es} : ev C Φ (.bi f as) ρ w = (evs C Φ as ρ w).bind fun rs w => .opt (bi f rs) w := (rfl)
/-- data of a tuple -/
def tupR (o : Option (List D)) (w : Dw) : Res RV := Res.obind o fun ds => Res.cond (decide (ds.length ≤ sizeLine)) (.ok (.v (.tup ds)) w) .bad
def lstR (o : Option (List D)) (w : Dw) : Res RV := Res.obind o fun ds => Res.cond (decide (ds.length ≤ sizeLine)) (.ok (.n ds) w) .bad
@[simp] theorem ev_tup {es : Es} : ev C Φ (.tup es) ρ w = (evs C Φ es ρ w).bind fun rs w => tupR (toDs rs) w := by
  show ((evs C Φ es ρ w).bind fun rs w => _) = _
  congr 1; funext u w
  unfold toDs tupR
  cases u.mapM RV.toD with
  | none => rfl
  | some ds =>
    show (if ds.length ≤ sizeLine then _ else _) = Res.cond (decide (ds.length ≤ sizeLine)) _ _
    unfold Res.cond
    by_cases h : ds.length ≤ sizeLine <;> simp [h]
@[simp] theorem ev_lst {es : Es} : ev C Φ (.lst es) ρ w = (evs C Φ es ρ w).bind fun rs w => lstR (toDs rs) w := by
  show ((evs C Φ es ρ w).bind fun rs w => _) = _
  congr 1; funext u w
  unfold toDs lstR
  cases u.mapM RV.toD with
  | none => rfl
  | some ds =>
    show (if ds.length ≤ sizeLine then _ else _) = Res.cond (decide (ds.length ≤ sizeLine)) _ _
    unfold Res.cond
    by_cases h : ds.length ≤ sizeLine <;> simp [h]
/-- a comprehension behind its source -/
def lcR (C : Cfg) (Φ : Phi) (e : E) (p : Pt) (t : Eo) (ρ : En) (items : List D) (w : Dw) : Res RV :=
  (compL (lcTurn p ρ (evT C Φ t) (ev C Φ e)) items w).bind fun l w => Res.cond (decide (items.length ≤ sizeLine)) (.ok (.n l) w) .bad
@[simp] theorem ev_lc {e : E} {p : Pt} {s : Src} {t : Eo} {own : List Nat} : ev C Φ (.lc e p s t own) ρ w = (evS C Φ s ρ w).bind fun items w => lcR C Φ e p t (wipeE ρ own) items w := by
  show ((evS C Φ s ρ w).bind fun items w => _) = _
  congr 1; funext u w
  unfold lcR
  congr 1; funext l w
  unfold Res.cond
  by_cases h : u.length ≤ sizeLine <;> simp [h]
/-- x[i] -/
def ixR (u v : RV) : Option RV := match u.seq, v with
  | some (_, ds), .v (.int j) => (atD ds j).map .v
  | _, _ => none
@[simp] theorem ev_ix {a i : E} : ev C Φ (.ix a i) ρ w = (ev C Φ a ρ w).bind fun u w => (ev C Φ i ρ w).bind fun v w => .opt (ixR u v) w := by
  show ((ev C Φ a ρ w).bind fun u w => (ev C Φ i ρ w).bind fun v w => match u.seq, v with
    | some (_, ds), .v (.int j) => .opt ((atD ds j).map RV.v) w
    | _, _ => .bad) = _
  congr 1; funext u w; congr 1; funext v w
  unfold ixR
  split <;> rfl
/-- x[l:h] -/
def slR (u : RV) (l h : Option Int) : Option RV := match u.seq with
  | some (true, ds) => some (.v (.tup (cutD ds l h)))
  | some (false, ds) => some (.n (cutD ds l h))
  | none => none
@[simp] theorem ev_sl {a : E} {lo hi : Eo} : ev C Φ (.sl a lo hi) ρ w = (ev C Φ a ρ w).bind fun u w => (evO C Φ lo ρ w).bind fun l w => (evO C Φ hi ρ w).bind fun h w => .opt (slR u l h) w := by
  show ((ev C Φ a ρ w).bind fun u w => (evO C Φ lo ρ w).bind fun l w => (evO C Φ hi ρ w).bind fun h w => match u.seq with
    | some (true, ds) => Res.ok (RV.v (.tup (cutD ds l h))) w
    | some (false, ds) => .ok (.n (cutD ds l h)) w
    | none => .bad) = _
  congr 1; funext u w; congr 1; funext v w; congr 1; funext z w
  unfold slR
  split <;> rfl
def rvR (u : RV) : Option RV := match u.seq with
  | some (true, ds) => some (.v (.tup ds.reverse))
  | some (false, ds) => some (.n ds.reverse)
  | none => none
@[simp] theorem ev_rv {a : E} : ev C Φ (.rv a) ρ w = (ev C Φ a ρ w).bind fun u w => .opt (rvR u) w := by
  show ((ev C Φ a ρ w).bind fun u w => match u.seq with
    | some (true, ds) => Res.ok (RV.v (.tup ds.reverse)) w
    | some (false, ds) => .ok (.n ds.reverse) w
    | none => .bad) = _
  congr 1; funext u w
  unfold rvR
  split <;> rfl
@[simp] theorem ev_sq {k : Bool} {s : Src} : ev C Φ (.sq k s) ρ w = (evS C Φ s ρ w).bind fun ds w => Res.cond (decide (ds.length ≤ sizeLine)) (.ok (if k then .v (.tup ds) else .n ds) w) .bad := by
  show ((evS C Φ s ρ w).bind fun ds w => if ds.length ≤ sizeLine then Res.ok (if k then RV.v (.tup ds) else .n ds) w else .bad) = _
  congr 1; funext u w
  unfold Res.cond
  by_cases h : u.length ≤ sizeLine <;> simp [h]
def fldR (C : Cfg) (n : Str) (u : RV) : Option RV := match u with
  | .v (.err c fs) => ((C.fldN c).zip fs).lookup n |>.map .v
  | _ => none
@[simp] theorem ev_fld {a : E} {n : Str} : ev C Φ (.fld a n) ρ w = (ev C Φ a ρ w).bind fun u w => .opt (fldR C n u) w := by
  show ((ev C Φ a ρ w).bind fun u w => match u with
    | .v (.err c fs) => Res.opt (((C.fldN c).zip fs).lookup n |>.map RV.v) w
    | _ => .bad) = _
  congr 1; funext u w
  unfold fldR
  split <;> rfl
@[simp] theorem ev_isi {a : E} {t : Ty} : ev C Φ (.isi a t) ρ w = (ev C Φ a ρ w).bind fun u w => .opt ((isaT C.sub t u).map fun b => .v (.bl b)) w := (rfl)
/-- what the catcher gives -/
def cauR (C : Cfg) : Res RV → Res RV
  | .ok _ w => .ok (.v .non) w
  | .exc er w => Res.cond (C.takes er.c) (.ok (.v (.err er.c er.fs)) w) .bad
  | .bad => .bad
@[simp] theorem cauR_ok {C : Cfg} {r : RV} {w : Dw} : cauR C (.ok r w) = .ok (.v .non) w := (rfl)
@[simp] theorem cauR_exc {C : Cfg} {er : Er} {w : Dw} : cauR C (.exc er w) = Res.cond (C.takes er.c) (.ok (.v (.err er.c er.fs)) w) .bad := (rfl)
@[simp] theorem ev_caught {e : E} : ev C Φ (.caught e) ρ w = cauR C (ev C Φ e (ρ.map Sl.sh) w) := by
  show (match ev C Φ e (ρ.map Sl.sh) w with
    | .ok _ w => Res.ok (RV.v .non) w
    | .exc er w => if C.takes er.c then .ok (.v (.err er.c er.fs)) w else .bad
    | .bad => .bad) = _
  cases ev C Φ e (ρ.map Sl.sh) w <;> rfl
@[simp] theorem ev_dG {i : Nat} {f : DF} : ev C Φ (.dG i f) ρ w = Res.cond (isDr ρ[i]?) (.opt ((dwGet f w).map .v) w) .bad := (rfl)
@[simp] theorem ev_dL {i : Nat} : ev C Φ (.dL i) ρ w = Res.cond (isDr ρ[i]? && w.on) (.opt ((eqD (.lst w.large) (.lst [])).map fun b => .v (.bl (!b))) w) .bad := (rfl)
def dPR (w : Dw) : Res RV := match w.large with
  | d :: r => .ok (.v d) { w with large := r }
  | [] => .bad
@[simp] theorem ev_dP {i : Nat} : ev C Φ (.dP i) ρ w = Res.cond (isDr ρ[i]? && w.on) (dPR w) .bad := (rfl)
@[simp] theorem evs_nil : evs C Φ .nil ρ w = .ok [] w := (rfl)
@[simp] theorem evs_cons {e : E} {r : Es} : evs C Φ (.cons false e r) ρ w = (ev C Φ e ρ w).bind fun u w => (evs C Φ r ρ w).bind fun us w => .ok (u :: us) w := (rfl)
@[simp] theorem evs_star {e : E} {r : Es} : evs C Φ (.cons true e r) ρ w = (ev C Φ e ρ w).bind fun u w => Res.obind u.seq fun p => (evs C Φ r ρ w).bind fun us w => .ok (p.2.map .v ++ us) w := by
  show ((ev C Φ e ρ w).bind fun u w => match u.seq with
    | none => Res.bad
    | some (_, ds) => (evs C Φ r ρ w).bind fun us w => .ok (ds.map .v ++ us) w) = _
  congr 1; funext u w
  cases u.seq with
  | none => rfl
  | some p => rfl
@[simp] theorem evB_one {k s : Bool} {e : E} : evB C Φ k (.cons s e .nil) ρ w = ev C Φ e ρ w := (rfl)
@[simp] theorem evB_cons {k s s' : Bool} {e e' : E} {r : Es} : evB C Φ k (.cons s e (.cons s' e' r)) ρ w = (ev C Φ e ρ w).bind fun u w => Res.obind u.truthy fun b => Res.cond (b == k) (evB C Φ k (.cons s' e' r) ρ w) (.ok u w) := by
  show ((ev C Φ e ρ w).bind fun u w => match u.truthy with
    | none => Res.bad
    | some b => if b == k then evB C Φ k (.cons s' e' r) ρ w else .ok u w) = _
  congr 1; funext u w
  cases u.truthy with
  | none => rfl
  | some p => rfl
@[simp] theorem evO_no : evO C Φ .no ρ w = .ok none w := (rfl)
@[simp] theorem evO_so {e : E} : evO C Φ (.so e) ρ w = (ev C Φ e ρ w).bind fun u w => .opt (u.int.map some) w := (rfl)
@[simp] theorem evT_no : evT C Φ .no ρ w = .ok true w := (rfl)
@[simp] theorem evT_so {e : E} : evT C Φ (.so e) ρ w = (ev C Φ e ρ w).bind fun u w => .opt u.truthy w := (rfl)
/-- a loop's source -/
def srcR : Option D → Option (List D)
  | some (.tup ds) => some ds
  | some (.lst ds) => some ds
  | some (.scr ds) => some ds
  | _ => none
@[simp] theorem evS_e {a : E} : evS C Φ (.e a) ρ w = (ev C Φ a ρ w).bind fun u w => .opt (srcR u.toD) w := by
  show ((ev C Φ a ρ w).bind fun u w => match u.toD with
    | some (.tup ds) => Res.ok ds w
    | some (.lst ds) => .ok ds w
    | some (.scr ds) => .ok ds w
    | _ => .bad) = _
  congr 1; funext u w
  unfold srcR
  split <;> rfl
@[simp] theorem evS_rng {as : Es} : evS C Φ (.rng as) ρ w = (evs C Φ as ρ w).bind fun rs w => .opt (rngI rs) w := (rfl)
def seqR (u : RV) : Option (List D) := (u.toD.bind fun d => (RV.v d).seq).map (·.2)
@[simp] theorem evS_en {a : E} : evS C Φ (.en a .no) ρ w = (ev C Φ a ρ w).bind fun u w => .opt ((seqR u).map (enumD 0)) w := by
  show ((ev C Φ a ρ w).bind fun u w => match u.toD.bind (fun d => (RV.v d).seq) with
    | some (_, ds) => Res.ok (enumD 0 ds) w
    | none => .bad) = _
  congr 1; funext u w
  unfold seqR
  cases u.toD.bind (fun d => (RV.v d).seq) <;> rfl
@[simp] theorem evS_zp {a b : E} : evS C Φ (.zp a b) ρ w = (ev C Φ a ρ w).bind fun u w => (ev C Φ b ρ w).bind fun v w => Res.obind (seqR u) fun xs => .opt ((seqR v).map (zipD xs)) w := by
  show ((ev C Φ a ρ w).bind fun u w => (ev C Φ b ρ w).bind fun v w => match u.toD.bind (fun d => (RV.v d).seq), v.toD.bind (fun d => (RV.v d).seq) with
    | some (_, xs), some (_, ys) => Res.ok (zipD xs ys) w
    | _, _ => .bad) = _
  congr 1; funext u w; congr 1; funext v w
  unfold seqR
  cases u.toD.bind (fun d => (RV.v d).seq) <;> cases v.toD.bind (fun d => (RV.v d).seq) <;> rfl
@[simp] theorem evS_zpr {a : E} {bs : Es} : evS C Φ (.zpr a bs) ρ w = (ev C Φ a ρ w).bind fun u w => Res.obind (seqR u) fun xs => (evs C Φ bs ρ w).bind fun rs w => .opt ((rngI rs).map (zipD xs)) w := by
  show ((ev C Φ a ρ w).bind fun u w => match u.toD.bind (fun d => (RV.v d).seq) with
    | none => Res.bad
    | some (_, xs) => (evs C Φ bs ρ w).bind fun rs w => match rngI rs with
      | none => .bad
      | some l => .ok (zipD xs l) w) = _
  congr 1; funext u w
  unfold seqR
  cases u.toD.bind (fun d => (RV.v d).seq) with
  | none => rfl
  | some p =>
    show ((evs C Φ bs ρ w).bind fun rs w => _) = ((evs C Φ bs ρ w).bind fun rs w => _)
    congr 1; funext v w
    cases rngI v <;> rfl
end
/-! ### statements -/
/-- behind a statement -/
def nxt (f : En → Dw → Res (En × Fl)) (q : En × Fl) (w : Dw) : Res (En × Fl) := match q.2 with
  | .nx => f q.1 w
  | fl => .ok (q.1, fl) w
@[simp] theorem nxt_nx {f : En → Dw → Res (En × Fl)} {ρ : En} {w : Dw} : nxt f (ρ, .nx) w = f ρ w := (rfl)
@[simp] theorem nxt_rt {f : En → Dw → Res (En × Fl)} {ρ : En} {r : RV} {w : Dw} : nxt f (ρ, .rt r) w = .ok (ρ, .rt r) w := (rfl)
@[simp] theorem nxt_bk {f : En → Dw → Res (En × Fl)} {ρ : En} {w : Dw} : nxt f (ρ, .bk) w = .ok (ρ, .bk) w := (rfl)
@[simp] theorem nxt_ct {f : En → Dw → Res (En × Fl)} {ρ : En} {w : Dw} : nxt f (ρ, .ct) w = .ok (ρ, .ct) w := (rfl)
theorem nxt_congr {f : En → Dw → Res (En × Fl)} {q q' : En × Fl} {w w' : Dw} (h : q = q') (h2 : w = w') : nxt f q w = nxt f q' w' := by rw [h, h2]
def ofE (o : Option En) (w : Dw) : Res (En × Fl) := Res.obind o fun ρ => .ok (ρ, .nx) w
@[simp] theorem ofE_some {ρ : En} {w : Dw} : ofE (some ρ) w = .ok (ρ, .nx) w := (rfl)
/-- the own list of a slot -/
def Sl.lst : Option Sl → Option (List D)
  | some (.own ds) => some ds
  | _ => none
/-- the int of a slot -/
def Sl.int : Option Sl → Option Int
  | some (.v (.int x)) => some x
  | _ => none
section
variable (C : Cfg) (Φ : Phi) (ρ : En) (w : Dw)
@[simp] theorem exs_nil : exSs C Φ .nil ρ w = .ok (ρ, .nx) w := (rfl)
@[simp] theorem exs_cons {s : S} {r : Ss} : exSs C Φ (.cons s r) ρ w = (exS C Φ s ρ w).bind fun q w => nxt (exSs C Φ r) q w := by
  show ((exS C Φ s ρ w).bind fun q w => match q.2 with
    | .nx => exSs C Φ r q.1 w
    | f => Res.ok (q.1, f) w) = _
  congr 1
@[simp] theorem ex_set {p : Pt} {e : E} : exS C Φ (.set p e) ρ w = (ev C Φ e ρ w).bind fun r w => ofE (setE p r ρ) w := by
  show ((ev C Φ e ρ w).bind fun r w => match setE p r ρ with
    | none => Res.bad
    | some ρ1 => Res.ok (ρ1, Fl.nx) w) = _
  congr 1; funext r w
  cases setE p r ρ <;> rfl
@[simp] theorem ex_seti {p : Pt} {c a b : E} {fa fb : List Nat} : exS C Φ (.seti p c fa a fb b) ρ w = (ev C Φ c ρ w).bind fun u w => Res.obind u.truthy fun t => Res.cond t ((ev C Φ a (frzs fa ρ) w).bind fun r w => ofE (setE p r (frzs fa ρ)) w) ((ev C Φ b (frzs fb ρ) w).bind fun r w => ofE (setE p r (frzs fb ρ)) w) := by
  have e : ∀ (ρ : En) (r : RV) (w : Dw), (match setE p r ρ with | none => Res.bad | some ρ1 => Res.ok (ρ1, Fl.nx) w) = ofE (setE p r ρ) w := fun ρ r w => by cases setE p r ρ <;> rfl
  show ((ev C Φ c ρ w).bind fun u w => match u.truthy with
    | none => Res.bad
    | some true => (ev C Φ a (frzs fa ρ) w).bind fun r w => (match setE p r (frzs fa ρ) with
      | none => Res.bad
      | some ρ1 => Res.ok (ρ1, Fl.nx) w)
    | some false => (ev C Φ b (frzs fb ρ) w).bind fun r w => (match setE p r (frzs fb ρ) with
      | none => Res.bad
      | some ρ1 => Res.ok (ρ1, Fl.nx) w)) = _
  congr 1; funext u w
  cases u.truthy with
  | none => rfl
  | some t => cases t <;> simp only [e] <;> rfl
@[simp] theorem frzs_nil : frzs [] ρ = ρ := (rfl)
theorem frzs_cons {i : Nat} {is : List Nat} : frzs (i :: is) ρ = frzs is (match ρ[i]? with | some (.own ds) => ρ.set i (.v (.lst ds)) | _ => ρ) := (rfl)
@[simp] theorem ex_par {is : List Nat} {es : Es} : exS C Φ (.par is es) ρ w = (evs C Φ es ρ w).bind fun rs w => ofE (parE is rs ρ) w := by
  show ((evs C Φ es ρ w).bind fun rs w => match parE is rs ρ with
    | none => Res.bad
    | some ρ1 => Res.ok (ρ1, Fl.nx) w) = _
  congr 1; funext r w
  cases parE is r ρ <;> rfl
/-- x[j] = r -/
def setxR (i : Nat) (ρ : En) (ds : List D) (r j : RV) : Option En := match r.toD, j with
  | some d, .v (.int k) => (L2.ixN ds.length k).map fun n => ρ.set i (.own (ds.set n d))
  | _, _ => none
@[simp] theorem ex_setx {i : Nat} {ix v : E} : exS C Φ (.setx i ix v) ρ w = (ev C Φ v ρ w).bind fun r w => Res.obind (Sl.lst ρ[i]?) fun ds => (ev C Φ ix ρ w).bind fun j w => ofE (setxR i ρ ds r j) w := by
  show ((ev C Φ v ρ w).bind fun r w => match ρ[i]? with
    | some (.own ds) => (ev C Φ ix ρ w).bind fun j w => (match r.toD, j with
      | some d, .v (.int k) => (match L2.ixN ds.length k with
        | some n => Res.ok (ρ.set i (.own (ds.set n d)), Fl.nx) w
        | none => .bad)
      | _, _ => .bad)
    | _ => .bad) = _
  congr 1; funext r w
  split
  · rename_i ds e
    rw [e]
    show _ = Res.obind (some ds) _
    rw [Res.obind_some]
    congr 1; funext j w
    unfold setxR
    split
    · split
      · rename_i h; rw [h]; rfl
      · rename_i h; rw [h]; rfl
    · rfl
  · rename_i h
    have : Sl.lst ρ[i]? = none := by
      unfold Sl.lst
      split
      · rename_i ds e; exact absurd e (h ds)
      · rfl
    rw [this]; rfl
@[simp] theorem ex_aug {i : Nat} {o : BOp} {v : E} : exS C Φ (.aug i o v) ρ w = Res.obind (Sl.int ρ[i]?) fun x => (ev C Φ v ρ w).bind fun r w => .opt ((augI o x r).map fun d => (ρ.set i (.v d), .nx)) w := by
  show (match ρ[i]? with
    | some (.v (.int x)) => (ev C Φ v ρ w).bind fun r w => .opt ((augI o x r).map fun d => (ρ.set i (Sl.v d), Fl.nx)) w
    | _ => .bad) = _
  split
  · rename_i x e
    rw [e]
    rfl
  · rename_i h
    have : Sl.int ρ[i]? = none := by
      unfold Sl.int
      split
      · rename_i ds e; exact absurd e (h ds)
      · rfl
    rw [this]; rfl
def appR (i : Nat) (ρ : En) (ds : List D) (r : RV) : Option En := r.toD.bind fun d => if ds.length < sizeLine then some (ρ.set i (.own (ds ++ [d]))) else none
@[simp] theorem ex_app {i : Nat} {v : E} : exS C Φ (.app i v) ρ w = Res.obind (Sl.lst ρ[i]?) fun ds => (ev C Φ v ρ w).bind fun r w => ofE (appR i ρ ds r) w := by
  show (match ρ[i]? with
    | some (.own ds) => (ev C Φ v ρ w).bind fun r w => (match r.toD with
      | some d => if ds.length < sizeLine then Res.ok (ρ.set i (.own (ds ++ [d])), Fl.nx) w else .bad
      | none => .bad)
    | _ => .bad) = _
  split
  · rename_i ds e
    rw [e]
    show _ = Res.obind (some ds) _
    rw [Res.obind_some]
    congr 1; funext j w
    unfold appR
    cases j.toD with
    | none => rfl
    | some d =>
      show (if ds.length < sizeLine then Res.ok (ρ.set i (.own (ds ++ [d])), Fl.nx) w else .bad) = ofE (if ds.length < sizeLine then some (ρ.set i (.own (ds ++ [d]))) else none) w
      split <;> rfl
  · rename_i h
    have : Sl.lst ρ[i]? = none := by
      unfold Sl.lst
      split
      · rename_i ds e; exact absurd e (h ds)
      · rfl
    rw [this]; rfl
def apppR (i j : Nat) (ρ : En) (ds es : List D) (r : RV) : Option En := match r with
  | .v (.int k) => if i = j ∨ sizeLine < es.length then none else (L2.ixN es.length k).bind fun n => es[n]?.bind fun d => if ds.length < sizeLine then some ((ρ.set j (.own (es.eraseIdx n))).set i (.own (ds ++ [d]))) else none
  | _ => none
@[simp] theorem ex_appp {i j : Nat} {ix : E} : exS C Φ (.appp i j ix) ρ w = Res.obind (Sl.lst ρ[i]?) fun ds => Res.obind (Sl.lst ρ[j]?) fun es => (ev C Φ ix ρ w).bind fun r w => ofE (apppR i j ρ ds es r) w := by
  have nl : ∀ {k : Nat}, (∀ ds, ρ[k]? ≠ some (.own ds)) → Sl.lst ρ[k]? = none := fun {k} h => by
    unfold Sl.lst
    split
    · rename_i ds e; exact absurd e (h ds)
    · rfl
  show (match ρ[i]?, ρ[j]? with
    | some (.own ds), some (.own es) => (ev C Φ ix ρ w).bind fun r w => (match r with
      | .v (.int k) => if i = j ∨ sizeLine < es.length then Res.bad else (match L2.ixN es.length k with
        | some n => (match es[n]? with
          | some d => if ds.length < sizeLine then .ok ((ρ.set j (.own (es.eraseIdx n))).set i (.own (ds ++ [d])), Fl.nx) w else .bad
          | none => .bad)
        | none => .bad)
      | _ => .bad)
    | _, _ => .bad) = _
  split
  · rename_i ds es e1 e2
    rw [e1, e2]
    show _ = Res.obind (some ds) fun ds => Res.obind (some es) _
    rw [Res.obind_some, Res.obind_some]
    congr 1; funext r w
    unfold apppR
    split
    · rename_i k
      by_cases h : i = j ∨ sizeLine < es.length
      · rw [if_pos h, if_pos h]; rfl
      · rw [if_neg h, if_neg h]
        cases L2.ixN es.length k with
        | none => rfl
        | some n =>
          show (match es[n]? with | some d => _ | none => _) = ofE (es[n]?.bind _) w
          cases es[n]? with
          | none => rfl
          | some d =>
            show (if ds.length < sizeLine then _ else _) = ofE (if ds.length < sizeLine then _ else _) w
            split <;> rfl
    · rfl
  · rename_i h
    cases h1 : Sl.lst ρ[i]? with
    | none => rfl
    | some ds =>
      cases h2 : Sl.lst ρ[j]? with
      | none => rfl
      | some es =>
        exfalso
        have q1 : ρ[i]? = some (.own ds) := by
          unfold Sl.lst at h1
          split at h1
          · rename_i e; cases h1; exact e
          · cases h1
        have q2 : ρ[j]? = some (.own es) := by
          unfold Sl.lst at h2
          split at h2
          · rename_i e; cases h2; exact e
          · cases h2
        exact h ds es q1 q2
def extR (i : Nat) (ρ : En) (ds : List D) (r : RV) : Option En := match r.seq with
  | some (false, es) => if ds.length + es.length ≤ sizeLine then some (ρ.set i (.own (ds ++ es))) else none
  | _ => none
@[simp] theorem ex_ext {i : Nat} {v : E} : exS C Φ (.ext i v) ρ w = Res.obind (Sl.lst ρ[i]?) fun ds => (ev C Φ v ρ w).bind fun r w => ofE (extR i ρ ds r) w := by
  show (match ρ[i]? with
    | some (.own ds) => (ev C Φ v ρ w).bind fun r w => (match r.seq with
      | some (false, es) => if ds.length + es.length ≤ sizeLine then Res.ok (ρ.set i (.own (ds ++ es)), Fl.nx) w else .bad
      | _ => .bad)
    | _ => .bad) = _
  split
  · rename_i ds e
    rw [e]
    show _ = Res.obind (some ds) _
    rw [Res.obind_some]
    congr 1; funext r w
    unfold extR
    split
    · split <;> rfl
    · rfl
  · rename_i h
    have : Sl.lst ρ[i]? = none := by
      unfold Sl.lst
      split
      · rename_i ds e; exact absurd e (h ds)
      · rfl
    rw [this]; rfl
/-- draw[f] = r -/
def dSR (f : DF) (ρ : En) (b : Bool) (r : RV) (w : Dw) : Res (En × Fl) := match b, r with
  | true, .v (.int k) => Res.obind (dwSet f (.int k) w) fun w1 => .ok (ρ, .nx) w1
  | _, _ => .bad
@[simp] theorem dSR_true {f : DF} {k : Int} : dSR f ρ true (.v (.int k)) w = Res.obind (dwSet f (.int k) w) fun w1 => .ok (ρ, .nx) w1 := (rfl)
@[simp] theorem ex_dS {i : Nat} {f : DF} {v : E} : exS C Φ (.dS i f v) ρ w = (ev C Φ v ρ w).bind fun r w => dSR f ρ (isDr ρ[i]?) r w := by
  show ((ev C Φ v ρ w).bind fun r w => match isDr ρ[i]?, r with
    | true, .v (.int k) => (match dwSet f (.int k) w with
      | some w1 => Res.ok (ρ, Fl.nx) w1
      | none => .bad)
    | _, _ => .bad) = _
  congr 1; funext r w
  unfold dSR
  split
  · rename_i k e
    cases dwSet f (.int k) w <;> rfl
  · rfl
@[simp] theorem ex_ite {c : E} {a b : Ss} : exS C Φ (.ite c a b) ρ w = (ev C Φ c ρ w).bind fun u w => Res.obind u.truthy fun t => Res.cond t (exSs C Φ a ρ w) (exSs C Φ b ρ w) := by
  show ((ev C Φ c ρ w).bind fun u w => match u.truthy with
    | none => Res.bad
    | some true => exSs C Φ a ρ w
    | some false => exSs C Φ b ρ w) = _
  congr 1; funext u w
  cases u.truthy with
  | none => rfl
  | some t => cases t <;> rfl
@[simp] theorem ex_for {p : Pt} {s : Src} {body : Ss} : exS C Φ (.forr p s body) ρ w = (evS C Φ s ρ w).bind fun items w => forL (exSs C Φ body) p items ρ w := (rfl)
@[simp] theorem ex_whl {n : Nat} {c : E} {body : Ss} : exS C Φ (.whl n c body) ρ w = whlL (ev C Φ c) (exSs C Φ body) n ρ w := (rfl)
@[simp] theorem ex_ret {e : E} : exS C Φ (.ret e) ρ w = (ev C Φ e ρ w).bind fun r w => .ok (ρ, .rt r) w := (rfl)
@[simp] theorem ex_retN : exS C Φ .retN ρ w = .ok (ρ, .rt (.v .non)) w := (rfl)
@[simp] theorem ex_brk : exS C Φ .brk ρ w = .ok (ρ, .bk) w := (rfl)
@[simp] theorem ex_cnt : exS C Φ .cnt ρ w = .ok (ρ, .ct) w := (rfl)
@[simp] theorem ex_pas : exS C Φ .pas ρ w = .ok (ρ, .nx) w := (rfl)
@[simp] theorem ex_rai {c : Nat} {as : Es} : exS C Φ (.rai c as) ρ w = (evs C Φ as ρ w).bind fun rs w => Res.obind (toDs rs) fun ds => .exc ⟨c, if (C.fldN c).isEmpty then [] else ds⟩ w := by
  show ((evs C Φ as ρ w).bind fun rs w => match rs.mapM RV.toD with
    | none => Res.bad
    | some ds => .exc ⟨c, if (C.fldN c).isEmpty then [] else ds⟩ w) = _
  congr 1; funext u w
  unfold toDs
  cases u.mapM RV.toD <;> rfl
@[simp] theorem ex_retD {es : Es} {fs : List DF} : exS C Φ (.retD es fs) ρ w = (evs C Φ es ρ w).bind fun rs w => Res.cond w.on .bad (Res.obind (dwMake fs rs w) fun w => .ok (ρ.map Sl.sh, .rt (.v .dr)) w) := by
  show ((evs C Φ es ρ w).bind fun rs w => if w.on then Res.bad else (match dwMake fs rs w with
      | some w => Res.ok (ρ.map Sl.sh, Fl.rt (RV.v .dr)) w
      | none => .bad)) = _
  congr 1; funext rs w
  unfold Res.cond
  split
  · rfl
  · cases dwMake fs rs w <;> rfl
@[simp] theorem dwMake4 {a b : RV} {c d : RV} {w : Dw} : dwMake [.large, .rest, .cells, .turn] [a, b, c, d] w = dwMk a b c d := (rfl)
@[simp] theorem dwMk4 {k : Nat} {ds es : List D} {i j : Int} : dwMk (.m k ds) (.v (.int i)) (.n es) (.v (.int j)) = some ⟨true, ds, .int i, .lst es, .int j⟩ := (rfl)
@[simp] theorem ex_exp {e : E} : exS C Φ (.exp e) ρ w = (ev C Φ e ρ w).bind fun _ w => .ok (ρ, .nx) w := (rfl)
/-- a list is data from here on -/
def frzE (i : Nat) (ρ : En) : En := match ρ[i]? with
  | some (.own ds) => ρ.set i (.v (.lst ds))
  | _ => ρ
@[simp] theorem ex_frz {i : Nat} : exS C Φ (.frz i) ρ w = .ok (frzE i ρ, .nx) w := by
  show (match ρ[i]? with
    | some (.own ds) => Res.ok (ρ.set i (.v (.lst ds)), Fl.nx) w
    | _ => .ok (ρ, .nx) w) = _
  unfold frzE
  split <;> rfl
end
/-! ### defs -/
theorem den_s {C : Cfg} {pr : List Fd} {n f : Nat} {ds : List D} {w : Dw} {fd : Fd} (h : pr[f]? = some fd) (h1 : ds.length = fd.np) (h2 : fd.np ≤ fd.nn) :
    den C pr (n + 1) f ds w = (exSs C (den C pr n) fd.body (ds.map .v ++ List.replicate (fd.nn - fd.np) .no) w).bind outR := by
  show (match pr[f]? with | some fd => runF C (den C pr n) fd ds w | none => .bad) = _
  rw [h]
  exact if_pos ⟨h1, h2⟩
@[simp] theorem outR_nx {ρ : En} {w : Dw} : outR (ρ, .nx) w = .ok (.v .non) w := (rfl)
@[simp] theorem outR_v {ρ : En} {d : D} {w : Dw} : outR (ρ, .rt (.v d)) w = .ok (.v d) w := (rfl)
@[simp] theorem outR_n {ρ : En} {ds : List D} {w : Dw} : outR (ρ, .rt (.n ds)) w = .ok (.n ds) w := (rfl)
@[simp] theorem outR_m {ρ : En} {i : Nat} {ds : List D} {w : Dw} : outR (ρ, .rt (.m i ds)) w = .ok (.n ds) w := (rfl)
/-! ### values -/
@[simp] theorem toD_v {d : D} : (RV.v d).toD = some d := (rfl)
@[simp] theorem toD_n {ds : List D} : (RV.n ds).toD = some (.lst ds) := (rfl)
@[simp] theorem seq_tup {ds : List D} : (RV.v (.tup ds)).seq = some (true, ds) := (rfl)
@[simp] theorem seq_lst {ds : List D} : (RV.v (.lst ds)).seq = some (false, ds) := (rfl)
@[simp] theorem seq_n {ds : List D} : (RV.n ds).seq = some (false, ds) := (rfl)
@[simp] theorem seq_m {i : Nat} {ds : List D} : (RV.m i ds).seq = some (false, ds) := (rfl)
@[simp] theorem look_v {d : D} : (RV.v d).look = d := (rfl)
@[simp] theorem look_n {ds : List D} : (RV.n ds).look = .lst ds := (rfl)
@[simp] theorem look_m {i : Nat} {ds : List D} : (RV.m i ds).look = .lst ds := (rfl)
@[simp] theorem int_int {i : Int} : (RV.v (.int i)).int = some i := (rfl)
@[simp] theorem tru_bl {b : Bool} : (RV.v (.bl b)).truthy = some b := (rfl)
@[simp] theorem tru_non : (RV.v .non).truthy = some false := (rfl)
@[simp] theorem slrv_v {i : Nat} {d : D} : Sl.rv i (some (.v d)) = some (.v d) := (rfl)
@[simp] theorem slrv_own {i : Nat} {ds : List D} : Sl.rv i (some (.own ds)) = some (.m i ds) := (rfl)
@[simp] theorem slfn_fn {k : Nat} : Sl.fn (some (.v (.fn k))) = some k := (rfl)
@[simp] theorem slint_int {k : Int} : Sl.int (some (.v (.int k))) = some k := (rfl)
@[simp] theorem sllst_own {ds : List D} : Sl.lst (some (.own ds)) = some ds := (rfl)
@[simp] theorem isDr_dr : isDr (some (.v .dr)) = true := (rfl)
@[simp] theorem set_nm_v {i : Nat} {d : D} {ρ : En} : setE (.nm i) (.v d) ρ = some (ρ.set i (.v d)) := (rfl)
@[simp] theorem set_nm_n {i : Nat} {ds : List D} {ρ : En} : setE (.nm i) (.n ds) ρ = some (ρ.set i (.own ds)) := (rfl)
@[simp] theorem set_nm_m {i j : Nat} {ds : List D} {ρ : En} : setE (.nm i) (.m j ds) ρ = some ((ρ.set j .no).set i (.own ds)) := (rfl)
@[simp] theorem set_tp_v {is : List Nat} {ds : List D} {ρ : En} : setE (.tp is) (.v (.tup ds)) ρ = putAll is ds ρ := (rfl)
@[simp] theorem put_nil {ρ : En} : putAll [] [] ρ = some ρ := (rfl)
@[simp] theorem put_cons {i : Nat} {is : List Nat} {d : D} {ds : List D} {ρ : En} : putAll (i :: is) (d :: ds) ρ = putAll is ds (ρ.set i (.v d)) := (rfl)
@[simp] theorem par_nil {ρ : En} : parE [] [] ρ = some ρ := (rfl)
@[simp] theorem par_v {i : Nat} {is : List Nat} {d : D} {rs : List RV} {ρ : En} : parE (i :: is) (.v d :: rs) ρ = parE is rs (ρ.set i (.v d)) := (rfl)
@[simp] theorem par_n {i : Nat} {is : List Nat} {ds : List D} {rs : List RV} {ρ : En} : parE (i :: is) (.n ds :: rs) ρ = parE is rs (ρ.set i (.own ds)) := (rfl)
@[simp] theorem bindP_nm {i : Nat} {d : D} {ρ : En} : bindP (.nm i) d ρ = some (ρ.set i (.v d)) := (rfl)
@[simp] theorem bindP_tp {is : List Nat} {ds : List D} {ρ : En} : bindP (.tp is) (.tup ds) ρ = putAll is ds ρ := (rfl)
@[simp] theorem wipe_nil {ρ : En} : wipeE ρ [] = ρ := (rfl)
@[simp] theorem wipe_cons {ρ : En} {v : Nat} {vs : List Nat} : wipeE ρ (v :: vs) = (wipeE ρ vs).set v .no := (rfl)
@[simp] theorem srcR_tup {ds : List D} : srcR (some (.tup ds)) = some ds := (rfl)
@[simp] theorem srcR_lst {ds : List D} : srcR (some (.lst ds)) = some ds := (rfl)
@[simp] theorem srcR_scr {ds : List D} : srcR (some (.scr ds)) = some ds := (rfl)
@[simp] theorem seqR_tup {ds : List D} : seqR (.v (.tup ds)) = some ds := (rfl)
@[simp] theorem seqR_lst {ds : List D} : seqR (.v (.lst ds)) = some ds := (rfl)
@[simp] theorem seqR_n {ds : List D} : seqR (.n ds) = some ds := (rfl)
@[simp] theorem ixR_tup {ds : List D} {j : Int} : ixR (.v (.tup ds)) (.v (.int j)) = (atD ds j).map .v := (rfl)
@[simp] theorem ixR_lst {ds : List D} {j : Int} : ixR (.v (.lst ds)) (.v (.int j)) = (atD ds j).map .v := (rfl)
@[simp] theorem ixR_n {ds : List D} {j : Int} : ixR (.n ds) (.v (.int j)) = (atD ds j).map .v := (rfl)
@[simp] theorem ixR_m {ds : List D} {i : Nat} {j : Int} : ixR (.m i ds) (.v (.int j)) = (atD ds j).map .v := (rfl)
@[simp] theorem slR_tup {ds : List D} {l h : Option Int} : slR (.v (.tup ds)) l h = some (.v (.tup (cutD ds l h))) := (rfl)
@[simp] theorem slR_lst {ds : List D} {l h : Option Int} : slR (.v (.lst ds)) l h = some (.n (cutD ds l h)) := (rfl)
@[simp] theorem slR_n {ds : List D} {l h : Option Int} : slR (.n ds) l h = some (.n (cutD ds l h)) := (rfl)
@[simp] theorem rvR_tup {ds : List D} : rvR (.v (.tup ds)) = some (.v (.tup ds.reverse)) := (rfl)
@[simp] theorem rvR_lst {ds : List D} : rvR (.v (.lst ds)) = some (.n ds.reverse) := (rfl)
@[simp] theorem rvR_n {ds : List D} : rvR (.n ds) = some (.n ds.reverse) := (rfl)
@[simp] theorem opB_ai {i j : Int} : opB .add (.v (.int i)) (.v (.int j)) = some (.v (.int (i + j))) := (rfl)
@[simp] theorem opB_si {i j : Int} : opB .sub (.v (.int i)) (.v (.int j)) = some (.v (.int (i - j))) := (rfl)
theorem opB_mi {i j : Int} (h : (small64 i || small64 j) = true) : opB .mul (.v (.int i)) (.v (.int j)) = some (.v (.int (i * j))) := if_pos h
theorem opB_fi {i j : Int} (h : j ≠ 0) (h2 : j.natAbs < 1073741824) : opB .fdiv (.v (.int i)) (.v (.int j)) = some (.v (.int (i.fdiv j))) := if_pos (by simp [h, h2])
theorem opB_mo {i j : Int} (h : j ≠ 0) : opB .mod (.v (.int i)) (.v (.int j)) = some (.v (.int (i.fmod j))) := if_pos h
theorem opB_at {xs ys : List D} (h : xs.length + ys.length ≤ sizeLine) : opB .add (.v (.tup xs)) (.v (.tup ys)) = some (.v (.tup (xs ++ ys))) := if_pos h
theorem opB_al {a b : RV} {xs ys : List D} (ha : a.seq = some (false, xs)) (hb : b.seq = some (false, ys)) (h : xs.length + ys.length ≤ sizeLine) : opB .add a b = some (.n (xs ++ ys)) := by
  have key : (match a.seq, b.seq with
      | some (true, xs), some (true, ys) => if xs.length + ys.length ≤ sizeLine then some (RV.v (.tup (xs ++ ys))) else none
      | some (false, xs), some (false, ys) => if xs.length + ys.length ≤ sizeLine then some (.n (xs ++ ys)) else none
      | _, _ => none) = some (.n (xs ++ ys)) := by rw [ha, hb]; exact if_pos h
  cases a with
  | v d => cases d <;> first | exact key | cases ha
  | n d => exact key
  | m i d => exact key
theorem opB_ml {a : RV} {xs : List D} {j : Int} (ha : a.seq = some (false, xs)) (h1 : -(2 ^ 63) ≤ j) (h2 : j < 2 ^ 63) (h3 : xs.length * j.toNat ≤ sizeLine) : opB .mul a (.v (.int j)) = some (.n (List.replicate j.toNat xs).flatten) := by
  have hc : (decide (-(2 ^ 63) ≤ j) && decide (j < 2 ^ 63) && decide (xs.length * j.toNat ≤ sizeLine)) = true := by rw [decide_eq_true h1, decide_eq_true h2, decide_eq_true h3]; rfl
  have key : (match a.seq with
        | some (true, xs) => if -(2 ^ 63) ≤ j && j ≤ 1000 && xs.length ≤ 1000 then some (RV.v (.tup (List.replicate j.toNat xs).flatten)) else none
        | some (false, xs) => if -(2 ^ 63) ≤ j && j < 2 ^ 63 && xs.length * j.toNat ≤ sizeLine then some (.n (List.replicate j.toNat xs).flatten) else none
        | none => none) = some (.n (List.replicate j.toNat xs).flatten) := by
    rw [ha]
    exact if_pos hc
  cases a with
  | v d => cases d <;> first | exact key | cases ha
  | n d => exact key
  | m i d => exact key
theorem opB_mt {a : RV} {xs : List D} {j : Int} (ha : a.seq = some (true, xs)) (h1 : -(2 ^ 63) ≤ j) (h2 : j ≤ 1000) (h3 : xs.length ≤ 1000) : opB .mul a (.v (.int j)) = some (.v (.tup (List.replicate j.toNat xs).flatten)) := by
  have hc : (decide (-(2 ^ 63) ≤ j) && decide (j ≤ 1000) && decide (xs.length ≤ 1000)) = true := by rw [decide_eq_true h1, decide_eq_true h2, decide_eq_true h3]; rfl
  have key : (match a.seq with
        | some (true, xs) => if -(2 ^ 63) ≤ j && j ≤ 1000 && xs.length ≤ 1000 then some (RV.v (.tup (List.replicate j.toNat xs).flatten)) else none
        | some (false, xs) => if -(2 ^ 63) ≤ j && j < 2 ^ 63 && xs.length * j.toNat ≤ sizeLine then some (.n (List.replicate j.toNat xs).flatten) else none
        | none => none) = some (.v (.tup (List.replicate j.toNat xs).flatten)) := by
    rw [ha]
    exact if_pos hc
  cases a with
  | v d => cases d <;> first | exact key | cases ha
  | n d => exact key
  | m i d => exact key
@[simp] theorem opC_lt {i j : Int} : opC .lt (.v (.int i)) (.v (.int j)) = some (decide (i < j)) := (rfl)
@[simp] theorem opC_le {i j : Int} : opC .le (.v (.int i)) (.v (.int j)) = some (decide (i ≤ j)) := (rfl)
@[simp] theorem opC_gt {i j : Int} : opC .gt (.v (.int i)) (.v (.int j)) = some (decide (j < i)) := (rfl)
@[simp] theorem opC_ge {i j : Int} : opC .ge (.v (.int i)) (.v (.int j)) = some (decide (j ≤ i)) := (rfl)
@[simp] theorem opC_eq {a b : RV} : opC .eq a b = eqR a b := (rfl)
@[simp] theorem opC_ne {a b : RV} : opC .ne a b = (eqR a b).map (!·) := (rfl)
@[simp] theorem opC_in {a b : RV} {k : Bool} {ds : List D} (h : b.seq = some (k, ds)) : opC .inn a b = inD a.look ds := by show (match b.seq with | some (_, ds) => inD a.look ds | none => none) = _; rw [h]
@[simp] theorem opC_nin {a b : RV} {k : Bool} {ds : List D} (h : b.seq = some (k, ds)) : opC .nin a b = (inD a.look ds).map (!·) := by show (match b.seq with | some (_, ds) => (inD a.look ds).map (!·) | none => none) = _; rw [h]
theorem opC_ltT {a b : List Int} : opC .lt (.v (.tup (a.map .int))) (.v (.tup (b.map .int))) = some (HT.lexLt a b) := by
  show (match intsD (a.map D.int), intsD (b.map D.int) with | some ns, some ms => some (HT.lexLt ns ms) | _, _ => none) = _
  have e : ∀ l : List Int, intsD (l.map D.int) = some l := fun l => by
    induction l with
    | nil => rfl
    | cons x l ih => show (intsD (l.map D.int)).map (x :: ·) = _; rw [ih]; rfl
  rw [e, e]
theorem augI_mul {x y : Int} (h : (small64 x || small64 y) = true) : augI .mul x (.v (.int y)) = some (.int (x * y)) := if_pos h
theorem augI_fdiv {x y : Int} (h : 0 < y) (h2 : y < 1073741824) : augI .fdiv x (.v (.int y)) = some (.int (x / y)) := if_pos (by rw [decide_eq_true h, decide_eq_true h2]; rfl)
@[simp] theorem augI_add {x y : Int} : augI .add x (.v (.int y)) = some (.int (x + y)) := (rfl)
@[simp] theorem augI_sub {x y : Int} : augI .sub x (.v (.int y)) = some (.int (x - y)) := (rfl)
theorem bi_strI {i : Int} (h : i.natAbs.log2 < 1920) : bi .str [.v (.int i)] = some (.v (.str (toString i))) := if_pos h
theorem bi_len {a : RV} {k : Bool} {ds : List D} (h : a.seq = some (k, ds)) : bi .len [a] = some (.v (.int ds.length)) := by
  have key : (a.seq.map fun p => RV.v (.int p.2.length)) = some (.v (.int ds.length)) := by rw [h]; rfl
  cases a with
  | v d => cases d <;> first | exact key | cases h
  | n d => exact key
  | m i d => exact key
@[simp] theorem bi_len_tup {ds : List D} : bi .len [.v (.tup ds)] = some (.v (.int ds.length)) := (rfl)
@[simp] theorem bi_len_lst {ds : List D} : bi .len [.v (.lst ds)] = some (.v (.int ds.length)) := (rfl)
@[simp] theorem bi_len_n {ds : List D} : bi .len [.n ds] = some (.v (.int ds.length)) := (rfl)
@[simp] theorem bi_len_m {i : Nat} {ds : List D} : bi .len [.m i ds] = some (.v (.int ds.length)) := (rfl)
@[simp] theorem bi_len_scr {ds : List D} : bi .len [.v (.scr ds)] = some (.v (.int ds.length)) := (rfl)
@[simp] theorem bi_int {i : Int} : bi .int [.v (.int i)] = some (.v (.int i)) := (rfl)
@[simp] theorem bi_abs {i : Int} : bi .abs [.v (.int i)] = some (.v (.int (if i < 0 then -i else i))) := (rfl)
@[simp] theorem bi_min {i j : Int} : bi .min [.v (.int i), .v (.int j)] = some (.v (.int (if j < i then j else i))) := (rfl)
@[simp] theorem bi_max {i j : Int} : bi .max [.v (.int i), .v (.int j)] = some (.v (.int (if j > i then j else i))) := (rfl)
@[simp] theorem bi_tup_n {ds : List D} : bi .tuple [.n ds] = some (.v (.tup ds)) := (rfl)
@[simp] theorem bi_tup_m {i : Nat} {ds : List D} : bi .tuple [.m i ds] = some (.v (.tup ds)) := (rfl)
@[simp] theorem bi_tup_l {ds : List D} : bi .tuple [.v (.lst ds)] = some (.v (.tup ds)) := (rfl)
@[simp] theorem bi_tup_t {ds : List D} : bi .tuple [.v (.tup ds)] = some (.v (.tup ds)) := (rfl)
@[simp] theorem bi_lst_n {ds : List D} : bi .list [.n ds] = some (.n ds) := (rfl)
@[simp] theorem bi_lst_m {i : Nat} {ds : List D} : bi .list [.m i ds] = some (.n ds) := (rfl)
@[simp] theorem bi_lst_l {ds : List D} : bi .list [.v (.lst ds)] = some (.n ds) := (rfl)
@[simp] theorem bi_lst_t {ds : List D} : bi .list [.v (.tup ds)] = some (.n ds) := (rfl)
@[simp] theorem rng_1 {b : Int} (h : big62 b = true) : rngI [.v (.int b)] = some (rngL 0 1 b.toNat) := if_pos h
@[simp] theorem rng_2 {a b : Int} (h : big62 a = true) (h2 : big62 b = true) : rngI [.v (.int a), .v (.int b)] = some (rngL a 1 (b - a).toNat) := if_pos (by rw [h, h2]; rfl)
@[simp] theorem rng_3 {a b : Int} (h : big62 a = true) (h2 : big62 b = true) : rngI [.v (.int a), .v (.int b), .v (.int (-1))] = some (rngL a (-1) (a - b).toNat) := if_pos (by rw [h, h2]; rfl)
theorem big62_of {i : Int} (h1 : -1000000000 ≤ i) (h2 : i ≤ 1000000000) : big62 i = true := by
  unfold big62
  rw [Bool.and_eq_true]
  exact ⟨decide_eq_true (by omega), decide_eq_true (by omega)⟩
theorem small64_of {i : Int} (h1 : -1000000000000000000 ≤ i) (h2 : i ≤ 1000000000000000000) : small64 i = true := by
  unfold small64
  rw [Bool.and_eq_true]
  exact ⟨decide_eq_true (by omega), decide_eq_true (by omega)⟩
theorem sizeLine_of {n : Nat} (h : n ≤ 1000000) : n ≤ sizeLine := Nat.le_trans h (by decide)
@[simp] theorem cond_and {b c : Bool} {w : Dw} : Res.cond b (.ok (RV.v (.bl c)) w) (.ok (.v (.bl b)) w) = .ok (.v (.bl (b && c))) w := by cases b <;> rfl
@[simp] theorem cond_and2 {b c : Bool} {w : Dw} : Res.cond b (.ok (RV.v (.bl c)) w) (.ok (.v (.bl false)) w) = .ok (.v (.bl (b && c))) w := by cases b <;> rfl
@[simp] theorem cond_or {b c : Bool} {w : Dw} : Res.cond (!b) (.ok (RV.v (.bl c)) w) (.ok (.v (.bl b)) w) = .ok (.v (.bl (b || c))) w := by cases b <;> rfl
theorem boolsD_map {α : Type} (f : α → Bool) : ∀ l : List α, boolsD (l.map fun x => .bl (f x)) = some (l.map f)
  | [] => rfl
  | x :: l => by show (boolsD (l.map fun x => .bl (f x))).map (f x :: ·) = _; rw [boolsD_map f l]; rfl
theorem intsD_map {α : Type} (f : α → Int) : ∀ l : List α, intsD (l.map fun x => .int (f x)) = some (l.map f)
  | [] => rfl
  | x :: l => by show (intsD (l.map fun x => .int (f x))).map (f x :: ·) = _; rw [intsD_map f l]; rfl
theorem intsD_ints (l : List Int) : intsD (l.map D.int) = some l := by
  have := intsD_map id l
  rw [List.map_id] at this
  exact this
theorem all_n {α : Type} {f : α → Bool} {l : List α} : bi .all [.n (l.map fun x => .bl (f x))] = some (.v (.bl (l.all f))) := by
  show (boolsD (l.map fun x => .bl (f x))).map (fun bs => RV.v (.bl (bs.all id))) = _
  rw [boolsD_map, Option.map_some, List.all_map]
  rfl
theorem all_fm {α : Type} {p f : α → Bool} {l : List α} : bi .all [.n (l.filterMap fun x => if p x then some (.bl (f x)) else none)] = some (.v (.bl (l.all fun x => !p x || f x))) := by
  have e : (l.filterMap fun x => if p x then some (D.bl (f x)) else none) = (l.filter p).map fun x => .bl (f x) := by
    induction l with
    | nil => rfl
    | cons x l ih =>
      rw [List.filterMap_cons, List.filter_cons]
      cases p x <;> simp [ih]
  rw [e, all_n, List.all_filter]
theorem fm_filter {α : Type} {p : α → Bool} {f : α → D} {l : List α} : (l.filterMap fun x => if p x then some (f x) else none) = (l.filter p).map f := by
  induction l with
  | nil => rfl
  | cons x l ih =>
    rw [List.filterMap_cons, List.filter_cons]
    cases p x <;> simp [ih]
theorem all_fm' {α : Type} {p : α → Prop} [DecidablePred p] {f : α → Bool} {l : List α} : bi .all [.n (l.filterMap fun x => if p x then none else some (.bl (f x)))] = some (.v (.bl (l.all fun x => decide (p x) || f x))) := by
  have e : (fun x => if p x then none else some (D.bl (f x))) = fun x => if (!decide (p x)) = true then some (.bl (f x)) else none := by
    funext x
    by_cases h : p x <;> simp [h]
  rw [e, all_fm]
  simp
theorem any_n {α : Type} {f : α → Bool} {l : List α} : bi .any [.n (l.map fun x => .bl (f x))] = some (.v (.bl (l.any f))) := by
  show (boolsD (l.map fun x => .bl (f x))).map (fun bs => RV.v (.bl (bs.any id))) = _
  rw [boolsD_map, Option.map_some, List.any_map]
  rfl
theorem sum_of {a : RV} {k : Bool} {ds : List D} {ns : List Int} (h : a.seq = some (k, ds)) (h2 : intsD ds = some ns) : bi .sum [a] = some (.v (.int ns.sum)) := by
  show (match a.seq with
    | some (_, ds) => (intsD ds).map fun (ns : List Int) => RV.v (.int ns.sum)
    | none => none) = _
  rw [h]
  show (intsD ds).map (fun (ns : List Int) => RV.v (.int ns.sum)) = _
  rw [h2]
  rfl
theorem sorted_of {a : RV} {k : Bool} {ds : List D} {ns : List Int} (h : a.seq = some (k, ds)) (h2 : intsD ds = some ns) : bi .sorted [a] = some (.n ((ns.mergeSort fun x y => decide (x ≤ y)).map .int)) := by
  show (match a.seq with
    | some (_, ds) => (intsD ds).map fun (ns : List Int) => RV.n ((ns.mergeSort fun x y => decide (x ≤ y)).map .int)
    | none => none) = _
  rw [h]
  show (intsD ds).map (fun (ns : List Int) => RV.n ((ns.mergeSort fun x y => decide (x ≤ y)).map .int)) = _
  rw [h2]
  rfl
theorem setl_of {a : RV} {k : Bool} {ds : List D} {ns : List Int} (h : a.seq = some (k, ds)) (h2 : intsD ds = some ns) (h3 : ns.length ≤ 1000) : bi .setl [a] = some (.v (.int (dedup ns).length)) := by
  show (match a.seq with
    | some (_, ds) => (intsD ds).bind fun (ns : List Int) => if ns.length ≤ 1000 then some (RV.v (.int (dedup ns).length)) else none
    | none => none) = _
  rw [h]
  show ((intsD ds).bind fun (ns : List Int) => if ns.length ≤ 1000 then some (RV.v (.int (dedup ns).length)) else none) = _
  rw [h2]
  exact if_pos h3
/-- x[j] of a list of things -/
theorem atD_map {α : Type} {f : α → D} {l : List α} {j : Nat} {x : α} (h : l[j]? = some x) : atD (l.map f) (j : Int) = some (f x) := by
  unfold atD
  have := L2.atI_nat (xs := l.map f) (j := j) (v := f x) (by rw [List.getElem?_map, h]; rfl)
  exact this
theorem atD_int {l : List Int} {i : Int} {j : Nat} (h : i = (j : Int)) (hj : j < l.length) : atD (l.map .int) i = some (.int (l.getD j 0)) := by
  rw [h, atD_map (x := l.getD j 0)]
  rw [List.getD_eq_getElem?_getD, List.getElem?_eq_getElem hj]
  rfl
/-- what stands at a place -/
def ix (r : List Int) (i : Nat) : Int := r.getD i 0
theorem atD_ix {l : List Int} {i : Int} {j : Nat} (h : i = (j : Int)) (hj : j < l.length) : atD (l.map .int) i = some (.int (ix l j)) := atD_int h hj
/-- a range from a up, down -/
def up (a : Int) (i : Nat) : D := .int (a + i)
def dn (a : Int) (i : Nat) : D := .int (a - i)
theorem rng_up {a : Int} {n m : Nat} (h : n = m) : rngL a 1 n = (List.range m).map (up a) := by
  subst h
  unfold rngL up
  simp
theorem rng_dn {a : Int} {n m : Nat} (h : n = m) : rngL a (-1) n = (List.range m).map (dn a) := by
  subst h
  unfold rngL dn
  refine List.map_congr_left fun i _ => ?_
  congr 1
  omega
@[simp] theorem sh_v {d : D} : Sl.sh (.v d) = .v d := (rfl)
/-- one statement, then the others -/
theorem step {C : Cfg} {Φ : Phi} {s : S} {r : Ss} {ρ ρ' : En} {w w' : Dw} {out : Res (En × Fl)} (h : exS C Φ s ρ w = .ok (ρ', .nx) w') (k : exSs C Φ r ρ' w' = out) : exSs C Φ (.cons s r) ρ w = out := by
  rw [exs_cons, h, Res.bind_ok, nxt_nx, k]
/-! ### comprehensions -/
theorem compL_pure {α : Type} {turn : D → Dw → Res (Option D)} {w : Dw} {e : α → D} {g : α → Option D} : ∀ {l : List α}, (∀ x ∈ l, turn (e x) w = .ok (g x) w) → compL turn (l.map e) w = .ok (l.filterMap g) w
  | [], _ => rfl
  | x :: l, h => by
    show (match turn (e x) w with
      | .ok o w1 => (compL turn (l.map e) w1).bind fun l w2 => Res.ok (match o with | some x => x :: l | none => l) w2
      | _ => .bad) = _
    rw [h x List.mem_cons_self, List.filterMap_cons]
    show (compL turn (l.map e) w).bind _ = _
    rw [compL_pure fun y hy => h y (List.mem_cons_of_mem _ hy)]
    cases g x <;> rfl
/-- a comprehension whose turns change nothing -/
theorem lcR_pure {α : Type} {C : Cfg} {Φ : Phi} {el : E} {p : Pt} {t : Eo} {ρ : En} {w : Dw} {e : α → D} {g : α → Option D} {l : List α} {its : List D} (hi : its = l.map e) (hl : l.length ≤ 1000000) (h : ∀ x ∈ l, lcTurn p ρ (evT C Φ t) (ev C Φ el) (e x) w = .ok (g x) w) :
    lcR C Φ el p t ρ its w = .ok (.n (l.filterMap g)) w := by
  unfold lcR
  rw [hi, compL_pure h]
  show Res.cond (decide ((l.map e).length ≤ sizeLine)) _ _ = _
  rw [List.length_map, decide_eq_true (sizeLine_of hl)]
  rfl
/-- .. with no test -/
theorem lcR_map {α : Type} {C : Cfg} {Φ : Phi} {el : E} {p : Pt} {ρ : En} {w : Dw} {e g : α → D} {l : List α} {its : List D} (hi : its = l.map e) (hl : l.length ≤ 1000000) (h : ∀ x ∈ l, lcTurn p ρ (evT C Φ .no) (ev C Φ el) (e x) w = .ok (some (g x)) w) :
    lcR C Φ el p .no ρ its w = .ok (.n (l.map g)) w := by
  rw [lcR_pure (g := fun x => some (g x)) hi hl h]
  rw [List.filterMap_eq_map']
def lcEnd (r : RV) (w : Dw) : Res (Option D) := Res.obind r.toD fun x => .ok (some x) w
@[simp] theorem lcEnd_v {d : D} {w : Dw} : lcEnd (.v d) w = .ok (some d) w := (rfl)
@[simp] theorem lcEnd_n {d : List D} {w : Dw} : lcEnd (.n d) w = .ok (some (.lst d)) w := (rfl)
@[simp] theorem cond_some {b : Bool} {x : D} {w : Dw} : Res.cond b (.ok (some x) w) (.ok none w) = .ok (if b then some x else none) w := by cases b <;> rfl
theorem lcTurn_eq {p : Pt} {ρ : En} {fT : En → Dw → Res Bool} {f : En → Dw → Res RV} {d : D} {w : Dw} : lcTurn p ρ fT f d w = Res.obind (bindP p d ρ) fun ρ1 => (fT ρ1 w).bind fun b w => Res.cond b ((f ρ1 w).bind lcEnd) (.ok none w) := by
  unfold lcTurn
  cases bindP p d ρ with
  | none => rfl
  | some ρ1 =>
    show (fT ρ1 w).bind _ = (fT ρ1 w).bind _
    congr 1; funext b w
    cases b with
    | false => rfl
    | true =>
      show (f ρ1 w).bind _ = (f ρ1 w).bind _
      congr 1; funext r w
      unfold lcEnd
      cases r.toD <;> rfl
/-! ### loops -/
/-- a loop with an invariant that hangs on what is left; no break, no return -/
theorem forL_inv {body : En → Dw → Res (En × Fl)} {p : Pt} (I : List D → En → Dw → Prop) (h : ∀ d r ρ w, I (d :: r) ρ w → ∃ ρ1 ρ2 w2, bindP p d ρ = some ρ1 ∧ (body ρ1 w = .ok (ρ2, .nx) w2 ∨ body ρ1 w = .ok (ρ2, .ct) w2) ∧ I r ρ2 w2) :
    ∀ (l : List D) (ρ : En) (w : Dw), I l ρ w → ∃ ρ' w', forL body p l ρ w = .ok (ρ', .nx) w' ∧ I [] ρ' w'
  | [], ρ, w, i => ⟨ρ, w, rfl, i⟩
  | d :: r, ρ, w, i => by
    obtain ⟨ρ1, ρ2, w2, e1, e2, i2⟩ := h d r ρ w i
    obtain ⟨ρ', w', e3, i3⟩ := forL_inv I h r ρ2 w2 i2
    refine ⟨ρ', w', ?_, i3⟩
    show (match bindP p d ρ with
      | none => Res.bad
      | some ρ1 => (body ρ1 w).bind fun q w => match q.2 with
        | Fl.nx | Fl.ct => forL body p r q.1 w
        | Fl.bk => Res.ok (q.1, Fl.nx) w
        | Fl.rt v => Res.ok (q.1, Fl.rt v) w) = _
    rw [e1]
    rcases e2 with e2 | e2
    · show (body ρ1 w).bind _ = _
      rw [e2]; exact e3
    · show (body ρ1 w).bind _ = _
      rw [e2]; exact e3
/-- a loop that may return early, its turns change no draws -/
theorem forL_all {α : Type} {body : En → Dw → Res (En × Fl)} {p : Pt} {w : Dw} {e : α → D} {ok : α → Bool} {r : RV} (I : En → Prop) : ∀ {l : List α}, (∀ x ∈ l, ∀ ρ, I ρ → ∃ ρ1 ρ2, bindP p (e x) ρ = some ρ1 ∧ I ρ2 ∧ body ρ1 w = .ok (ρ2, if ok x then .nx else .rt r) w) →
    ∀ ρ, I ρ → ∃ ρ', I ρ' ∧ forL body p (l.map e) ρ w = .ok (ρ', if l.all ok then .nx else .rt r) w
  | [], _, ρ, i => ⟨ρ, i, rfl⟩
  | x :: l, h, ρ, i => by
    obtain ⟨ρ1, ρ2, e1, i2, e2⟩ := h x List.mem_cons_self ρ i
    show ∃ ρ', I ρ' ∧ (match bindP p (e x) ρ with
      | none => Res.bad
      | some ρ1 => (body ρ1 w).bind fun q w => match q.2 with
        | Fl.nx | Fl.ct => forL body p (l.map e) q.1 w
        | Fl.bk => Res.ok (q.1, Fl.nx) w
        | Fl.rt v => Res.ok (q.1, Fl.rt v) w) = _
    rw [e1]
    show ∃ ρ', I ρ' ∧ (body ρ1 w).bind _ = _
    rw [e2, List.all_cons]
    cases ok x with
    | true =>
      obtain ⟨ρ', i', e'⟩ := forL_all I (fun y hy => h y (List.mem_cons_of_mem _ hy)) ρ2 i2
      exact ⟨ρ', i', e'⟩
    | false => exact ⟨ρ2, i2, rfl⟩
/-- a while loop: a measure, an invariant -/
theorem whlL_inv {test : En → Dw → Res RV} {body : En → Dw → Res (En × Fl)} (I : Nat → En → Dw → Prop) (h : ∀ m ρ w, I m ρ w → ∃ u b, test ρ w = .ok u w ∧ u.truthy = some b ∧ (b = true → ∃ k ρ2 w2, m = k + 1 ∧ body ρ w = .ok (ρ2, .nx) w2 ∧ I k ρ2 w2) ∧ (b = false → m = 0)) :
    ∀ (m n : Nat) (ρ : En) (w : Dw), m < n → I m ρ w → ∃ ρ' w', whlL test body n ρ w = .ok (ρ', .nx) w' ∧ I 0 ρ' w'
  | m, 0, _, _, hn, _ => absurd hn (by omega)
  | m, n + 1, ρ, w, hn, i => by
    obtain ⟨u, b, e1, e2, h1, h2⟩ := h m ρ w i
    show ∃ ρ' w', ((test ρ w).bind fun u w => match u.truthy with
      | none => Res.bad
      | some false => Res.ok (ρ, Fl.nx) w
      | some true => (body ρ w).bind fun q w => match q.2 with
        | Fl.nx | Fl.ct => whlL test body n q.1 w
        | Fl.bk => Res.ok (q.1, Fl.nx) w
        | Fl.rt v => Res.ok (q.1, Fl.rt v) w) = _ ∧ _
    rw [e1, Res.bind_ok, e2]
    cases b with
    | false => exact ⟨ρ, w, rfl, by rw [← h2 rfl]; exact i⟩
    | true =>
      obtain ⟨k, ρ2, w2, rfl, e3, i3⟩ := h1 rfl
      obtain ⟨ρ', w', e4, i4⟩ := whlL_inv I h k n ρ2 w2 (by omega) i3
      refine ⟨ρ', w', ?_, i4⟩
      show (body ρ w).bind _ = _
      rw [e3]
      exact e4
theorem opB_pow {i j : Int} (h1 : 0 ≤ j) (h2 : j ≤ 1000000) (h3 : i.natAbs < 2 ^ 64) : opB .pow (.v (.int i)) (.v (.int j)) = some (.v (.int (i ^ j.toNat))) :=
  if_pos (by rw [decide_eq_true h1, decide_eq_true h2, decide_eq_true h3]; rfl)
theorem atD_any {ds : List D} {i : Int} {j : Nat} {d : D} (h : i = (j : Int)) (hd : ds[j]? = some d) : atD ds i = some d := by
  subst h
  exact L2.atI_nat hd
theorem ixN_nat {n : Nat} {i : Int} {j : Nat} (h : i = (j : Int)) (hj : j < n) : L2.ixN n i = some j := by
  subst h
  unfold L2.ixN
  rw [if_pos (by omega), if_pos (by omega)]
  simp
end VM.R
set_option Elab.async false
set_option linter.all false
set_option maxRecDepth 100000
/-! Rt2: equality and membership of ints and of lists of ints. -/
namespace VM.R
open PySem
theorem pys_ints : ∀ l : List Int, D.pys (l.map .int) = some (l.map PyData.int)
  | [] => rfl
  | i :: l => by
    show (match D.py (.int i), D.pys (l.map .int) with | some p, some q => some (p :: q) | _, _ => none) = _
    rw [pys_ints l]; rfl
theorem py_tup (l : List Int) : (D.tup (l.map .int)).py = some (.tuple (l.map PyData.int)) := by
  show (D.pys (l.map .int)).map PyData.tuple = _
  rw [pys_ints]; rfl
theorem py_lst (l : List Int) : (D.lst (l.map .int)).py = some (.list (l.map PyData.int)) := by
  show (D.pys (l.map .int)).map PyData.list = _
  rw [pys_ints]; rfl
theorem canAll_ints : ∀ l : List Int, PyData.canLayAll0 (l.map PyData.int) = true
  | [] => by simp [PyData.canLayAll0]
  | i :: l => by simp [PyData.canLayAll0, PyData.canLay0, canAll_ints l]
theorem dep_ints : ∀ l : List Int, PyData.depthAll (l.map PyData.int) = 0
  | [] => by simp [PyData.depthAll]
  | i :: l => by simp [PyData.depthAll, PyData.depth, dep_ints l]
theorem shaped_int (i : Int) : SeqAt.shaped (.int i) = true := by simp [SeqAt.shaped, PyData.canLay0, PyData.depth]
theorem shaped_bl (i : Bool) : SeqAt.shaped (.bool i) = true := by simp [SeqAt.shaped, PyData.canLay0, PyData.depth]
theorem shaped_tup (l : List Int) : SeqAt.shaped (.tuple (l.map PyData.int)) = true := by simp [SeqAt.shaped, PyData.canLay0, PyData.depth, canAll_ints, dep_ints]
theorem shaped_lst (l : List Int) : SeqAt.shaped (.list (l.map PyData.int)) = true := by simp [SeqAt.shaped, PyData.canLay0, PyData.depth, canAll_ints, dep_ints]
theorem eqvAll_ints : ∀ a b : List Int, PyData.eqvAll (a.map PyData.int) (b.map PyData.int) = decide (a = b)
  | [], [] => by simp [PyData.eqvAll]
  | [], _ :: _ => by simp [PyData.eqvAll]
  | _ :: _, [] => by simp [PyData.eqvAll]
  | x :: a, y :: b => by
    simp only [List.map_cons, PyData.eqvAll, PyData.eqv, eqvAll_ints a b, List.cons.injEq, Bool.decide_and]
    rfl
theorem eqD_of {a b : D} {p q : PyData} (h1 : a.py = some p) (h2 : b.py = some q) (h3 : SeqAt.shaped p = true) (h4 : SeqAt.shaped q = true) : eqD a b = some (PyData.eqv p q) := by
  unfold eqD
  rw [h1, h2]
  exact if_pos (by rw [h3, h4]; rfl)
@[simp] theorem eqR_int {i j : Int} : eqR (.v (.int i)) (.v (.int j)) = some (decide (i = j)) := by
  show eqD (.int i) (.int j) = _
  rw [eqD_of (p := .int i) (q := .int j) rfl rfl (shaped_int i) (shaped_int j)]
  simp only [PyData.eqv]
  rfl
@[simp] theorem eqR_bl {i j : Bool} : eqR (.v (.bl i)) (.v (.bl j)) = some (decide (i = j)) := by
  show eqD (.bl i) (.bl j) = _
  rw [eqD_of (p := .bool i) (q := .bool j) rfl rfl (shaped_bl i) (shaped_bl j)]
  simp only [PyData.eqv]
  cases i <;> cases j <;> rfl
@[simp] theorem eqR_str {x y : Str} : eqR (.v (.str x)) (.v (.str y)) = some (x.cps.toList == y.cps.toList) := (rfl)
theorem eqR_tup {a b : List Int} : eqR (.v (.tup (a.map .int))) (.v (.tup (b.map .int))) = some (decide (a = b)) := by
  show eqD (.tup (a.map .int)) (.tup (b.map .int)) = _
  rw [eqD_of (py_tup a) (py_tup b) (shaped_tup a) (shaped_tup b)]
  simp only [PyData.eqv, eqvAll_ints]
theorem eqR_lst {a b : List Int} {u v : RV} (hu : u.look = .lst (a.map .int)) (hv : v.look = .lst (b.map .int)) : eqR u v = some (decide (a = b)) := by
  have key : eqD u.look v.look = some (decide (a = b)) := by
    rw [hu, hv, eqD_of (py_lst a) (py_lst b) (shaped_lst a) (shaped_lst b)]
    simp only [PyData.eqv, eqvAll_ints]
  unfold eqR
  split
  · cases hu
  · exact key
theorem inD_of {a : D} {l : List D} {p : PyData} {q : List PyData} (h1 : a.py = some p) (h2 : D.pys l = some q) (h3 : SeqAt.shaped p = true) (h4 : SeqAt.shaped (.list q) = true) : inD a l = some (q.any fun z => PyData.eqv z p) := by
  unfold inD
  rw [h1, h2]
  exact if_pos (by rw [h3, h4]; rfl)
theorem inD_int {i : Int} {l : List Int} : inD (.int i) (l.map .int) = some (decide (i ∈ l)) := by
  rw [inD_of (p := .int i) rfl (pys_ints l) (shaped_int i) (shaped_lst l)]
  congr 1
  induction l with
  | nil => rfl
  | cons x l ih =>
    have e : PyData.eqv (.int x) (.int i) = decide (i = x) := by
      simp only [PyData.eqv]
      rw [Bool.eq_iff_iff, beq_iff_eq, decide_eq_true_eq]
      exact eq_comm
    rw [List.map_cons, List.any_cons, e, ih, ← Bool.decide_or]
    exact decide_eq_decide.mpr List.mem_cons.symm
/-- lists of ints among lists of ints -/
theorem pys_lists : ∀ l : List (List Int), D.pys (l.map fun a => .lst (a.map .int)) = some (l.map fun a => PyData.list (a.map PyData.int))
  | [] => rfl
  | a :: l => by
    show (match D.py (.lst (a.map .int)), D.pys (l.map fun a => .lst (a.map .int)) with | some p, some q => some (p :: q) | _, _ => none) = _
    rw [pys_lists l, py_lst]; rfl
theorem can_lists : ∀ l : List (List Int), PyData.canLayAll0 (l.map fun a => PyData.list (a.map PyData.int)) = true
  | [] => by simp [PyData.canLayAll0]
  | i :: l => by simp [PyData.canLayAll0, PyData.canLay0, can_lists l, canAll_ints]
theorem dep_lists : ∀ l : List (List Int), PyData.depthAll (l.map fun a => PyData.list (a.map PyData.int)) ≤ 1
  | [] => by simp [PyData.depthAll]
  | i :: l => by
    have := dep_lists l
    simp only [List.map_cons, PyData.depthAll, PyData.depth, dep_ints]
    omega
theorem shaped_lists (l : List (List Int)) : SeqAt.shaped (.list (l.map fun a => PyData.list (a.map PyData.int))) = true := by
  have := dep_lists l
  have e : PyData.depth (.list (l.map fun a => PyData.list (a.map PyData.int))) = PyData.depthAll (l.map fun a => PyData.list (a.map PyData.int)) + 1 := by simp only [PyData.depth]
  unfold SeqAt.shaped
  rw [e]
  simp only [PyData.canLay0, can_lists, Bool.true_and, decide_eq_true_eq]
  omega
theorem inD_lists {a : List Int} {l : List (List Int)} : inD (.lst (a.map .int)) (l.map fun a => .lst (a.map .int)) = some (decide (a ∈ l)) := by
  rw [inD_of (py_lst a) (pys_lists l) (shaped_lst a) (shaped_lists l)]
  congr 1
  induction l with
  | nil => rfl
  | cons x l ih =>
    have e : PyData.eqv (.list (x.map PyData.int)) (.list (a.map PyData.int)) = decide (a = x) := by
      simp only [PyData.eqv, eqvAll_ints]
      exact decide_eq_decide.mpr eq_comm
    rw [List.map_cons, List.any_cons, e, ih, ← Bool.decide_or]
    exact decide_eq_decide.mpr List.mem_cons.symm
@[simp] theorem opC_isn_non {d : D} : opC .isn (.v d) (.v .non) = some (!d.isNon) := (rfl)
@[simp] theorem opC_is_non {d : D} : opC .is (.v d) (.v .non) = some d.isNon := (rfl)
@[simp] theorem opC_isn_bl {a b : Bool} : opC .isn (.v (.bl a)) (.v (.bl b)) = some (!decide (a = b)) := (rfl)
@[simp] theorem opC_is_bl {a b : Bool} : opC .is (.v (.bl a)) (.v (.bl b)) = some (decide (a = b)) := (rfl)
/-! ### slices -/
theorem cut_from (l : List D) {i : Int} {j : Nat} (h : i = (j : Int)) : cutD l (some i) none = l.drop j := by
  subst h
  unfold cutD
  rw [show HT.sIx l.length 0 (some (j : Int)) = min j l.length from HT.sIx_nat l.length 0 j, HT.sIx_none]
  by_cases hj : j ≤ l.length
  · rw [Nat.min_eq_left hj]
    exact List.take_of_length_le (by simp)
  · rw [Nat.min_eq_right (by omega), Nat.sub_self, List.take_zero, List.drop_eq_nil_of_le (by omega)]
theorem cut_to (l : List D) {i : Int} {j : Nat} (h : i = (j : Int)) : cutD l none (some i) = l.take j := by
  subst h
  unfold cutD
  rw [show HT.sIx l.length l.length (some (j : Int)) = min j l.length from HT.sIx_nat l.length l.length j, HT.sIx_none, Nat.sub_zero, List.drop_zero]
  by_cases hj : j ≤ l.length
  · rw [Nat.min_eq_left hj]
  · rw [Nat.min_eq_right (by omega), List.take_length, List.take_of_length_le (by omega)]
theorem cut_mid (l : List D) {i i2 : Int} {j k : Nat} (h : i = (j : Int)) (h2 : i2 = (k : Int)) (hj : j ≤ l.length) (hk : k ≤ l.length) : cutD l (some i) (some i2) = (l.drop j).take (k - j) := by
  subst h; subst h2
  unfold cutD
  rw [show HT.sIx l.length 0 (some (j : Int)) = min j l.length from HT.sIx_nat l.length 0 j, show HT.sIx l.length l.length (some (k : Int)) = min k l.length from HT.sIx_nat l.length l.length k, Nat.min_eq_left hj, Nat.min_eq_left hk]
/-- tuples of ints -/
def T (r : List Int) : D := .tup (r.map .int)
def L (r : List Int) : D := .lst (r.map .int)
@[simp] theorem seq_T {r : List Int} : (RV.v (T r)).seq = some (true, r.map .int) := (rfl)
@[simp] theorem seq_L {r : List Int} : (RV.v (L r)).seq = some (false, r.map .int) := (rfl)
@[simp] theorem look_L {r : List Int} : D.lst (r.map .int) = L r := (rfl)
@[simp] theorem bi_len_T {r : List Int} : bi .len [.v (T r)] = some (.v (.int r.length)) := by rw [bi_len seq_T, List.length_map]
@[simp] theorem bi_len_L {r : List Int} : bi .len [.v (L r)] = some (.v (.int r.length)) := by rw [bi_len seq_L, List.length_map]
@[simp] theorem srcR_T {r : List Int} : srcR (some (T r)) = some (r.map .int) := (rfl)
@[simp] theorem srcR_L {r : List Int} : srcR (some (L r)) = some (r.map .int) := (rfl)
@[simp] theorem seqR_T {r : List Int} : seqR (.v (T r)) = some (r.map .int) := (rfl)
@[simp] theorem seqR_L {r : List Int} : seqR (.v (L r)) = some (r.map .int) := (rfl)
@[simp] theorem ixR_T {r : List Int} {j : Int} : ixR (.v (T r)) (.v (.int j)) = (atD (r.map .int) j).map .v := (rfl)
@[simp] theorem ixR_L {r : List Int} {j : Int} : ixR (.v (L r)) (.v (.int j)) = (atD (r.map .int) j).map .v := (rfl)
@[simp] theorem slR_T {r : List Int} {l h : Option Int} : slR (.v (T r)) l h = some (.v (.tup (cutD (r.map .int) l h))) := (rfl)
@[simp] theorem slR_L {r : List Int} {l h : Option Int} : slR (.v (L r)) l h = some (.n (cutD (r.map .int) l h)) := (rfl)
@[simp] theorem rvR_T {r : List Int} : rvR (.v (T r)) = some (.v (T r.reverse)) := by rw [T, rvR_tup, ← List.map_reverse]; rfl
@[simp] theorem rvR_L {r : List Int} : rvR (.v (L r)) = some (.n (r.reverse.map .int)) := by rw [L, rvR_lst, ← List.map_reverse]
@[simp] theorem bi_tup_T {r : List Int} : bi .tuple [.v (T r)] = some (.v (T r)) := (rfl)
@[simp] theorem bi_lst_T {r : List Int} : bi .list [.v (T r)] = some (.n (r.map .int)) := (rfl)
@[simp] theorem bi_tup_L {r : List Int} : bi .tuple [.v (L r)] = some (.v (T r)) := (rfl)
@[simp] theorem isaT_T {sub : Nat → Nat → Option Bool} {t : Ty} {r : List Int} : isaT sub t (.v (T r)) = some (decide (t = .tup)) := (rfl)
@[simp] theorem isNon_T {r : List Int} : (T r).isNon = false := (rfl)
theorem T_add {a b : List Int} (h : a.length + b.length ≤ 1000000) : opB .add (.v (T a)) (.v (T b)) = some (.v (T (a ++ b))) := by
  unfold T
  rw [opB_at (by rw [List.length_map, List.length_map]; exact sizeLine_of h), List.map_append]
theorem T_eq {a b : List Int} : eqR (.v (T a)) (.v (T b)) = some (decide (a = b)) := eqR_tup
theorem rep_flat (x : Int) (m : Nat) : (List.replicate m [D.int x]).flatten = (List.replicate m x).map .int := by
  induction m with
  | zero => rfl
  | succ m ih => rw [List.replicate_succ, List.flatten_cons, ih, List.replicate_succ]; rfl
theorem T_rep {x : Int} {m : Int} {M : Nat} (h : m = (M : Int)) (hm : M ≤ 1000) : opB .mul (.v (.tup [.int x])) (.v (.int m)) = some (.v (T (List.replicate M x))) := by
  subst h
  rw [opB_mt (xs := [.int x]) rfl (by omega) (by omega) (by simp), Int.toNat_natCast, rep_flat]
  rfl
theorem L_rep {x : Int} {m : Int} {M : Nat} (h : m = (M : Int)) (hm : M ≤ 1000) : opB .mul (.n [.int x]) (.v (.int m)) = some (.n ((List.replicate M x).map .int)) := by
  subst h
  have hs := sizeLine_of (n := M) (by omega)
  rw [opB_ml (xs := [.int x]) rfl (by omega) (by omega) (by simpa using hs), Int.toNat_natCast, rep_flat]
theorem tupR_ints {l : List Int} {w : Dw} (h : l.length ≤ 1000000) : tupR (some (l.map .int)) w = .ok (.v (T l)) w := by
  unfold tupR
  rw [Res.obind_some, List.length_map, decide_eq_true (sizeLine_of h)]
  rfl
theorem toDs_ints (l : List Int) : toDs (l.map (RV.v ∘ D.int)) = some (l.map .int) := by
  have := toDs_vs (l.map .int)
  rwa [List.map_map] at this
theorem L_add {u v : RV} {a b : List Int} (hu : u.seq = some (false, a.map .int)) (hv : v.seq = some (false, b.map .int)) (h : a.length + b.length ≤ 1000000) : opB .add u v = some (.n ((a ++ b).map .int)) := by
  rw [opB_al hu hv (by rw [List.length_map, List.length_map]; exact sizeLine_of h), List.map_append]
@[simp] theorem bi_tup_ni {l : List Int} : bi .tuple [.n (l.map .int)] = some (.v (T l)) := (rfl)
theorem zipD_map {α β : Type} {f : α → D} {g : β → D} (a : List α) (b : List β) : zipD (a.map f) (b.map g) = (a.zip b).map fun p => .tup [f p.1, g p.2] := by
  unfold zipD
  rw [List.zipWith_map_left, List.zipWith_map_right, List.zip, List.map_zipWith]
theorem enumD_ints (s : List Int) : enumD 0 (s.map .int) = (List.range s.length).map fun i : Nat => .tup [.int (i : Int), .int (ix s i)] := by
  unfold enumD
  refine List.ext_getElem ?_ fun i h1 h2 => ?_
  · simp
  · simp only [List.length_map, List.length_zipIdx] at h1
    simp only [List.getElem_map, List.getElem_zipIdx, List.getElem_range, Nat.zero_add, Int.zero_add]
    unfold ix
    rw [List.getD_eq_getElem?_getD, List.getElem?_eq_getElem h1]
    rfl
theorem T_nil : D.tup [] = T [] := rfl
theorem sum_T {r : List Int} : bi .sum [.v (T r)] = some (.v (.int r.sum)) := sum_of seq_T (intsD_ints r)
/-! ### repr -/
theorem small_ints {b : Nat} (hb : b ≤ 1000000000) : ∀ l : List Int, (∀ i ∈ l, i.natAbs ≤ b) → smallRs (l.map PyData.int) = true
  | [], _ => rfl
  | i :: l, h => by
    have h1 := h i List.mem_cons_self
    show (decide (i.natAbs < 1000000000000) && smallRs (l.map PyData.int)) = true
    rw [small_ints hb l fun j hj => h j (List.mem_cons_of_mem _ hj), decide_eq_true (by omega)]
    rfl
theorem log_le {k m : Nat} (h : k < 2 ^ m) : k.log2 ≤ m := by
  by_cases h0 : k = 0
  · rw [h0]; simp
  · have := (Nat.log2_lt h0).mpr h
    omega
theorem wt_int {i : Int} (h : i.natAbs ≤ 1000000000) : PyData.weight (.int i) ≤ 31 := by
  simp only [PyData.weight]
  split
  · omega
  · have := log_le (k := i.natAbs) (m := 30) (by omega)
    omega
theorem wt_ints : ∀ l : List Int, (∀ i ∈ l, i.natAbs ≤ 1000000000) → PyData.weightAll (l.map PyData.int) ≤ 32 * l.length
  | [], _ => by simp [PyData.weightAll]
  | i :: l, h => by
    have h1 := wt_int (h i List.mem_cons_self)
    have h2 := wt_ints l fun j hj => h j (List.mem_cons_of_mem _ hj)
    simp only [List.map_cons, PyData.weightAll, List.length_cons]
    omega
theorem okR_tup {l : List Int} (h : ∀ i ∈ l, i.natAbs ≤ 1000000000) (hl : l.length ≤ 1000) : okR (.tuple (l.map PyData.int)) = true := by
  unfold okR
  have h1 := wt_ints l h
  have h2 : smallR (.tuple (l.map PyData.int)) = true := small_ints (Nat.le_refl _) l h
  have h3 : PyData.depth (.tuple (l.map PyData.int)) = 1 := by simp only [PyData.depth, dep_ints]
  have h4 : PyData.weight (.tuple (l.map PyData.int)) = PyData.weightAll (l.map PyData.int) := by simp only [PyData.weight]
  rw [h2, h3, h4, decide_eq_true (show 1 < 60 by omega), decide_eq_true (show PyData.weightAll (l.map PyData.int) ≤ 1048576 by omega)]
  rfl
theorem okR_bl (b : Bool) : okR (.bool b) = true := by
  cases b <;> simp [okR, smallR, PyData.depth, PyData.weight]
theorem okR_two {a b : List Int} (ha : ∀ i ∈ a, i.natAbs ≤ 1000000000) (hb : ∀ i ∈ b, i.natAbs ≤ 1000000000) (la : a.length ≤ 1000) (lb : b.length ≤ 1000) : okR (.list [.tuple (a.map PyData.int), .tuple (b.map PyData.int)]) = true := by
  unfold okR
  have h1 := wt_ints a ha
  have h2 := wt_ints b hb
  have h3 : smallR (.list [.tuple (a.map PyData.int), .tuple (b.map PyData.int)]) = true := by
    show (smallR (.tuple (a.map PyData.int)) && (smallR (.tuple (b.map PyData.int)) && true)) = true
    rw [show smallR (.tuple (a.map PyData.int)) = true from small_ints (Nat.le_refl _) a ha, show smallR (.tuple (b.map PyData.int)) = true from small_ints (Nat.le_refl _) b hb]
    rfl
  have h4 : PyData.depth (.list [.tuple (a.map PyData.int), .tuple (b.map PyData.int)]) = 2 := by simp only [PyData.depth, PyData.depthAll, dep_ints]; omega
  have h5 : PyData.weight (.list [.tuple (a.map PyData.int), .tuple (b.map PyData.int)]) = PyData.weightAll (a.map PyData.int) + 1 + (PyData.weightAll (b.map PyData.int) + 1 + 0) := by simp only [PyData.weight, PyData.weightAll]
  rw [h3, h4, h5, decide_eq_true (show 2 < 60 by omega), decide_eq_true (show PyData.weightAll (a.map PyData.int) + 1 + (PyData.weightAll (b.map PyData.int) + 1 + 0) ≤ 1048576 by omega)]
  rfl
theorem py_two {a b : List Int} : (D.lst [T a, T b]).py = some (.list [.tuple (a.map PyData.int), .tuple (b.map PyData.int)]) := by
  show (match (T a).py, D.pys [T b] with | some p, some q => some (p :: q) | _, _ => none).map PyData.list = _
  rw [show (T a).py = _ from py_tup a]
  show (match some (PyData.tuple (a.map PyData.int)), (match (T b).py, D.pys [] with | some p, some q => some (p :: q) | _, _ => none) with | some p, some q => some (p :: q) | _, _ => none).map PyData.list = _
  rw [show (T b).py = _ from py_tup b]
  rfl
theorem repr_of {d : D} {p : PyData} (h : d.py = some p) (h2 : okR p = true) : bi .repr [.v d] = some (.v (.str p.shown)) := by
  show (match d.py with | some p => if okR p then some (RV.v (.str p.shown)) else none | none => none) = _
  rw [h]
  exact if_pos h2
end VM.R
set_option Elab.async false
set_option linter.all false
set_option maxRecDepth 100000
set_option maxHeartbeats 4000000
namespace K03
open PySem PySem.Spec L2 LamX VM PyProof.Rows
def Nis_number : List Str := ["thing"]
def bis_number : Ss := (.cons (.ret (.boo true (.cons false (.isi (.x 0) .int) (.cons false (.not (.isi (.x 0) .bool)) .nil)))) .nil)
def Nis_between : List Str := ["thing", "low", "high"]
def bis_between : Ss := (.cons (.ret (.boo true (.cons false (.call 0 (.cons false (.x 0) .nil)) (.cons false (.ch2 .le .le (.x 1) (.x 0) (.x 2)) .nil)))) .nil)
def Nneed_between : List Str := ["number", "low", "high", "part"]
def bneed_between : Ss := (.cons (.ite (.not (.call 1 (.cons false (.x 0) (.cons false (.x 1) (.cons false (.x 2) .nil))))) (.cons (.rai 1 (.cons false (.x 3) .nil)) .nil) .nil) .nil)
def Nhas_each : List Str := ["thing", "number"]
def bhas_each : Ss := (.cons (.ret (.boo true (.cons false (.bi .all (.cons false (.lc (.call 1 (.cons false (.x 1) (.cons false (.k (.int 1)) (.cons false (.bi .len (.cons false (.x 0) .nil)) .nil)))) (.nm 1) (.e (.x 0)) .no [1]) .nil)) (.cons false (.cmp .eq (.bi .setl (.cons false (.x 0) .nil)) (.bi .len (.cons false (.x 0) .nil))) .nil)))) .nil)
def Nis_row : List Str := ["thing"]
def bis_row : Ss := (.cons (.ret (.boo true (.cons false (.isi (.x 0) .tup) (.cons false (.ch2 .le .le (.k (.int 1)) (.bi .len (.cons false (.x 0) .nil)) (.k (.int 8))) (.cons false (.call 3 (.cons false (.x 0) .nil)) .nil))))) .nil)
def Nneed_row : List Str := ["row"]
def bneed_row : Ss := (.cons (.ite (.not (.call 4 (.cons false (.x 0) .nil))) (.cons (.rai 2 (.cons false (.k (.str "no row")) .nil)) .nil) .nil) .nil)
def Nneed_seats : List Str := ["seats"]
def bneed_seats : Ss := (.cons (.exp (.call 2 (.cons false (.x 0) (.cons false (.k (.int 1)) (.cons false (.k (.int 8)) (.cons false (.k (.str "seats")) .nil)))))) .nil)
def Nlength_told : List Str := ["row", "place", "number", "later"]
def blength_told : Ss := (.cons (.ret (.bi .sum (.cons false (.lc (.bi .len (.cons false (.lc (.k (.int 1)) (.nm 3) (.e (.sl (.x 0) (.so (.bin .add (.x 1) (.k (.int 1)))) .no)) (.so (.cmp .lt (.x 3) (.x 2))) [3]) .nil)) (.tp [1, 2]) (.en (.x 0) .no) .no [1, 2]) .nil))) .nil)
def Nlength_of : List Str := ["row"]
def blength_of : Ss := (.cons (.exp (.call 5 (.cons false (.x 0) .nil))) (.cons (.ret (.call 7 (.cons false (.x 0) .nil))) .nil))
def Nfalls_told : List Str := ["row", "place"]
def bfalls_told : Ss := (.cons (.ret (.lc (.x 1) (.nm 1) (.rng (.cons false (.k (.int 1)) (.cons false (.bi .len (.cons false (.x 0) .nil)) .nil))) (.so (.cmp .gt (.ix (.x 0) (.bin .sub (.x 1) (.k (.int 1)))) (.ix (.x 0) (.x 1)))) [1])) .nil)
def Nfalls_of : List Str := ["row"]
def bfalls_of : Ss := (.cons (.exp (.call 5 (.cons false (.x 0) .nil))) (.cons (.ret (.bi .tuple (.cons false (.call 9 (.cons false (.x 0) .nil)) .nil))) .nil))
def Ncode_told : List Str := ["row", "place", "number", "later"]
def bcode_told : Ss := (.cons (.ret (.lc (.bi .len (.cons false (.lc (.k (.int 1)) (.nm 3) (.e (.sl (.x 0) (.so (.bin .add (.x 1) (.k (.int 1)))) .no)) (.so (.cmp .lt (.x 3) (.x 2))) [3]) .nil)) (.tp [1, 2]) (.en (.x 0) .no) .no [1, 2])) .nil)
def Ncode_of : List Str := ["row"]
def bcode_of : Ss := (.cons (.exp (.call 5 (.cons false (.x 0) .nil))) (.cons (.ret (.bi .tuple (.cons false (.call 11 (.cons false (.x 0) .nil)) .nil))) .nil))
def Nis_code : List Str := ["thing", "place", "number"]
def bis_code : Ss := (.cons (.ite (.boo false (.cons false (.not (.isi (.x 0) .tup)) (.cons false (.not (.ch2 .le .le (.k (.int 1)) (.bi .len (.cons false (.x 0) .nil)) (.k (.int 8)))) .nil))) (.cons (.ret (.k (.bl false))) .nil) .nil) (.cons (.ret (.bi .all (.cons false (.lc (.call 1 (.cons false (.x 2) (.cons false (.k (.int 0)) (.cons false (.bin .sub (.bin .sub (.bi .len (.cons false (.x 0) .nil)) (.k (.int 1))) (.x 1)) .nil)))) (.tp [1, 2]) (.en (.x 0) .no) .no [1, 2]) .nil))) .nil))
def Nrow_from : List Str := ["code", "number", "left", "found"]
def brow_from : Ss := (.cons (.frz 2) (.cons (.frz 3) (.cons (.par [2, 3] (.cons false (.sq false (.rng (.cons false (.k (.int 1)) (.cons false (.bin .add (.bi .len (.cons false (.x 0) .nil)) (.k (.int 1))) .nil)))) (.cons false (.lst .nil) .nil))) (.cons (.forr (.nm 1) (.e (.x 0)) (.cons (.appp 3 2 (.x 1)) .nil)) (.cons (.ret (.bi .tuple (.cons false (.x 3) .nil))) .nil)))))
def Nrow_of_code : List Str := ["code"]
def brow_of_code : Ss := (.cons (.ite (.not (.call 13 (.cons false (.x 0) .nil))) (.cons (.rai 3 (.cons false (.k (.str "no code")) .nil)) .nil) .nil) (.cons (.ret (.call 14 (.cons false (.x 0) .nil))) .nil))
def Nrow_number : List Str := ["row", "found", "place", "number"]
def brow_number : Ss := (.cons (.exp (.call 5 (.cons false (.x 0) .nil))) (.cons (.set (.nm 1) (.k (.int 0))) (.cons (.forr (.tp [2, 3]) (.en (.call 11 (.cons false (.x 0) .nil)) .no) (.cons (.set (.nm 1) (.bin .add (.bin .mul (.x 1) (.bin .sub (.bi .len (.cons false (.x 0) .nil)) (.x 2))) (.x 3))) .nil)) (.cons (.ret (.x 1)) .nil))))
def Nfactorial_of : List Str := ["seats", "found", "number"]
def bfactorial_of : Ss := (.cons (.set (.nm 1) (.k (.int 1))) (.cons (.forr (.nm 2) (.rng (.cons false (.k (.int 2)) (.cons false (.bin .add (.x 0) (.k (.int 1))) .nil))) (.cons (.aug 1 .mul (.x 2)) .nil)) (.cons (.ret (.x 1)) .nil)))
def Nrow_at : List Str := ["seats", "number", "many", "code", "left"]
def brow_at : Ss := (.cons (.exp (.call 6 (.cons false (.x 0) .nil))) (.cons (.exp (.call 2 (.cons false (.x 1) (.cons false (.k (.int 0)) (.cons false (.bin .sub (.call 17 (.cons false (.x 0) .nil)) (.k (.int 1))) (.cons false (.k (.str "number")) .nil)))))) (.cons (.frz 3) (.cons (.par [3, 4] (.cons false (.lst .nil) (.cons false (.x 1) .nil))) (.cons (.forr (.nm 2) (.rng (.cons false (.k (.int 1)) (.cons false (.bin .add (.x 0) (.k (.int 1))) .nil))) (.cons (.app 3 (.bin .mod (.x 4) (.x 2))) (.cons (.aug 4 .fdiv (.x 2)) .nil))) (.cons (.ret (.call 14 (.cons false (.rv (.x 3)) .nil))) .nil))))))
def N_law_begun : List Str := ["script", "large", "cell"]
def b_law_begun : Ss := (.cons (.set (.nm 1) (.lc (.bin .sub (.bi .abs (.cons false (.x 2) .nil)) (.bin .pow (.k (.int 10)) (.k (.int 18)))) (.nm 2) (.e (.x 0)) (.so (.cmp .ge (.bi .abs (.cons false (.x 2) .nil)) (.bin .pow (.k (.int 10)) (.k (.int 18))))) [2])) (.cons (.retD (.cons false (.x 1) (.cons false (.k (.int 0)) (.cons false (.lc (.bi .int (.cons false (.bi .abs (.cons false (.x 2) .nil)) .nil)) (.nm 2) (.e (.x 0)) .no [2]) (.cons false (.k (.int 0)) .nil)))) [.large, .rest, .cells, .turn]) .nil))
def N_law_mixed : List Str := ["draw", "great", "turn", "found", "blend", "cell"]
def b_law_mixed : Ss := (.cons (.dS 0 .turn (.bin .add (.dG 0 .turn) (.k (.int 1)))) (.cons (.par [2, 3] (.cons false (.bi .int (.cons false (.dG 0 .turn) .nil)) (.cons false (.k (.int 0)) .nil))) (.cons (.forr (.nm 1) (.e (.lst (.cons false (.k (.int 2147483629)) (.cons false (.k (.int 2147483587)) (.cons false (.k (.int 2147483579)) (.cons false (.k (.int 2147483563)) .nil)))))) (.cons (.set (.nm 4) (.bin .mod (.bin .add (.bin .mul (.x 2) (.k (.int 69621))) (.bin .fdiv (.x 1) (.k (.int 13)))) (.x 1))) (.cons (.forr (.nm 5) (.e (.dG 0 .cells)) (.cons (.set (.nm 4) (.bin .mod (.bin .add (.bin .add (.bin .mul (.x 4) (.k (.int 48271))) (.bi .int (.cons false (.x 5) .nil))) (.k (.int 3))) (.x 1))) .nil)) (.cons (.set (.nm 3) (.bin .add (.bin .mul (.x 3) (.k (.int 2147483647))) (.bin .mod (.bin .pow (.x 4) (.k (.int 5))) (.x 1)))) .nil)))) (.cons (.ret (.x 3)) .nil))))
def N_law_take : List Str := ["draw", "amount", "found"]
def b_law_take : Ss := (.cons (.ite (.cmp .eq (.dG 0 .rest) (.k (.int 0))) (.cons (.frz 0) (.cons (.dS 0 .rest (.ife (.dL 0) (.dP 0) (.call 20 (.cons false (.x 0) .nil)))) .nil)) .nil) (.cons (.set (.nm 2) (.bin .mod (.bi .int (.cons false (.dG 0 .rest) .nil)) (.x 1))) (.cons (.dS 0 .rest (.bin .fdiv (.bi .int (.cons false (.dG 0 .rest) .nil)) (.x 1))) (.cons (.ret (.x 2)) .nil))))
def N_law_pick : List Str := ["draw", "some"]
def b_law_pick : Ss := (.cons (.ret (.ix (.x 1) (.call 21 (.cons false (.x 0) (.cons false (.bi .len (.cons false (.x 1) .nil)) .nil))))) .nil)
def N_law_shuffled : List Str := ["draw", "some", "left", "found"]
def b_law_shuffled : Ss := (.cons (.frz 2) (.cons (.frz 3) (.cons (.par [2, 3] (.cons false (.bi .list (.cons false (.x 1) .nil)) (.cons false (.lst .nil) .nil))) (.cons (.whl 1000 (.cmp .ne (.x 2) (.lst .nil)) (.cons (.appp 3 2 (.call 21 (.cons false (.x 0) (.cons false (.bi .len (.cons false (.x 2) .nil)) .nil)))) .nil)) (.cons (.ret (.x 3)) .nil)))))
def N_law_says : List Str := ["found", "due"]
def b_law_says : Ss := (.cons (.ret (.ife (.x 1) (.cmp .is (.x 0) (.k (.bl true))) (.cmp .is (.x 0) (.k (.bl false))))) .nil)
def N_law_is_number : List Str := ["thing"]
def b_law_is_number : Ss := (.cons (.ret (.boo true (.cons false (.isi (.x 0) .int) (.cons false (.not (.isi (.x 0) .bool)) .nil)))) .nil)
def N_law_row : List Str := ["draw", "most", "seats", "plain", "way", "found", "lap", "number", "one", "other"]
def b_law_row : Ss := (.cons (.set (.nm 2) (.bin .add (.k (.int 1)) (.call 21 (.cons false (.x 0) (.cons false (.x 1) .nil))))) (.cons (.set (.nm 3) (.sq false (.rng (.cons false (.k (.int 1)) (.cons false (.bin .add (.x 2) (.k (.int 1))) .nil))))) (.cons (.set (.nm 4) (.call 21 (.cons false (.x 0) (.cons false (.k (.int 4)) .nil)))) (.cons (.seti (.nm 5) (.cmp .gt (.x 4) (.k (.int 1))) [3] (.call 23 (.cons false (.x 0) (.cons false (.x 3) .nil))) [] (.ife (.cmp .eq (.x 4) (.k (.int 0))) (.x 3) (.rv (.x 3)))) (.cons (.forr (.nm 6) (.rng (.cons false (.ife (.cmp .lt (.x 4) (.k (.int 2))) (.call 21 (.cons false (.x 0) (.cons false (.k (.int 3)) .nil))) (.k (.int 0))) .nil)) (.cons (.par [8, 9] (.cons false (.call 21 (.cons false (.x 0) (.cons false (.x 2) .nil))) (.cons false (.call 21 (.cons false (.x 0) (.cons false (.x 2) .nil))) .nil))) (.cons (.set (.nm 7) (.ix (.x 5) (.x 8))) (.cons (.setx 5 (.x 8) (.ix (.x 5) (.x 9))) (.cons (.setx 5 (.x 9) (.x 7)) .nil))))) (.cons (.ret (.bi .tuple (.cons false (.x 5) .nil))) .nil))))))
def N_law_mate : List Str := ["draw", "row", "found", "lap", "number", "one", "other"]
def b_law_mate : Ss := (.cons (.set (.nm 2) (.bi .list (.cons false (.x 1) .nil))) (.cons (.ite (.cmp .eq (.call 21 (.cons false (.x 0) (.cons false (.k (.int 3)) .nil))) (.k (.int 0))) (.cons (.frz 2) (.cons (.ret (.bi .tuple (.cons false (.call 23 (.cons false (.x 0) (.cons false (.x 2) .nil))) .nil))) .nil)) .nil) (.cons (.forr (.nm 3) (.rng (.cons false (.bin .add (.k (.int 1)) (.call 21 (.cons false (.x 0) (.cons false (.k (.int 3)) .nil)))) .nil)) (.cons (.par [5, 6] (.cons false (.call 21 (.cons false (.x 0) (.cons false (.bi .len (.cons false (.x 2) .nil)) .nil))) (.cons false (.call 21 (.cons false (.x 0) (.cons false (.bi .len (.cons false (.x 2) .nil)) .nil))) .nil))) (.cons (.set (.nm 4) (.ix (.x 2) (.x 5))) (.cons (.setx 2 (.x 5) (.ix (.x 2) (.x 6))) (.cons (.setx 2 (.x 6) (.x 4)) .nil))))) (.cons (.ret (.bi .tuple (.cons false (.x 2) .nil))) .nil))))
def N_law_is_row : List Str := ["thing", "number"]
def b_law_is_row : Ss := (.cons (.ite (.boo false (.cons false (.not (.isi (.x 0) .tup)) (.cons false (.not (.ch2 .le .le (.k (.int 1)) (.bi .len (.cons false (.x 0) .nil)) (.k (.int 8)))) (.cons false (.cmp .ne (.lc (.k (.int 1)) (.nm 1) (.e (.x 0)) (.so (.not (.call 25 (.cons false (.x 1) .nil)))) [1]) (.lst .nil)) .nil)))) (.cons (.ret (.k (.bl false))) .nil) .nil) (.cons (.ret (.cmp .eq (.bi .sorted (.cons false (.x 0) .nil)) (.sq false (.rng (.cons false (.k (.int 1)) (.cons false (.bin .add (.bi .len (.cons false (.x 0) .nil)) (.k (.int 1))) .nil)))))) .nil))
def N_law_no_row : List Str := ["draw", "row", "seats", "some", "number"]
def b_law_no_row : Ss := (.cons (.set (.nm 2) (.bi .len (.cons false (.x 1) .nil))) (.cons (.set (.nm 3) (.lst (.cons false (.k .non) (.cons false (.k (.int 5)) (.cons false (.k (.str "12")) (.cons false (.tup .nil) (.cons false (.bi .list (.cons false (.x 1) .nil)) (.cons false (.bin .add (.x 1) (.tup (.cons false (.x 2) .nil))) (.cons false (.bin .add (.x 1) (.tup (.cons false (.k (.int 0)) .nil))) (.cons false (.bin .add (.tup (.cons false (.k (.int 0)) .nil)) (.x 1)) (.cons false (.bi .tuple (.cons false (.lc (.bin .sub (.x 4) (.k (.int 1))) (.nm 4) (.e (.x 1)) .no [4]) .nil)) (.cons false (.sq true (.rng (.cons false (.k (.int 1)) (.cons false (.k (.int 10)) .nil)))) .nil)))))))))))) (.cons (.frz 3) (.cons (.set (.nm 3) (.bin .add (.x 3) (.lst (.cons false (.bin .add (.sl (.x 1) .no (.so (.neg (.k (.int 1))))) (.tup (.cons false (.bin .add (.x 2) (.k (.int 1))) .nil))) (.cons false (.bin .add (.sl (.x 1) .no (.so (.neg (.k (.int 1))))) (.tup (.cons false (.k .non) .nil))) (.cons false (.bin .add (.sl (.x 1) .no (.so (.neg (.k (.int 1))))) (.tup (.cons false (.k (.str "1")) .nil))) (.cons false (.bi .tuple (.cons false (.lc (.bi .str (.cons false (.x 4) .nil)) (.nm 4) (.e (.x 1)) .no [4]) .nil)) (.cons false .emp (.cons false (.tup (.cons false (.tup (.cons false (.k (.int 1)) .nil)) .nil)) (.cons false (.tup (.cons false (.k (.bl true)) .nil)) .nil)))))))))) (.cons (.frz 3) (.cons (.set (.nm 3) (.bin .add (.x 3) (.lst (.cons false (.bi .tuple (.cons false (.lc (.boo false (.cons false (.cmp .eq (.x 4) (.k (.int 1))) (.cons false (.x 4) .nil))) (.nm 4) (.e (.x 1)) .no [4]) .nil)) .nil)))) (.cons (.frz 3) (.cons (.ret (.call 22 (.cons false (.x 0) (.cons false (.x 3) .nil)))) .nil))))))))
def N_law_word : List Str := ["error"]
def b_law_word : Ss := (.cons (.ite (.isi (.x 0) (.cls 1)) (.cons (.ret (.bin .add (.k (.str "number ")) (.bi .repr (.cons false (.fld (.x 0) "part") .nil)))) .nil) .nil) (.cons (.ret (.ife (.isi (.x 0) (.cls 2)) (.k (.str "row")) (.ife (.isi (.x 0) (.cls 3)) (.k (.str "code")) (.k (.str "other"))))) .nil))
def N_law_code : List Str := ["row", "spot", "number", "later"]
def b_law_code : Ss := (.cons (.ret (.bi .tuple (.cons false (.lc (.bi .len (.cons false (.lc (.k (.int 1)) (.nm 3) (.e (.sl (.x 0) (.so (.bin .add (.x 1) (.k (.int 1)))) .no)) (.so (.cmp .lt (.x 3) (.x 2))) [3]) .nil)) (.tp [1, 2]) (.en (.x 0) .no) .no [1, 2]) .nil))) .nil)
def N_law_is_code : List Str := ["thing", "number", "spot"]
def b_law_is_code : Ss := (.cons (.ite (.boo false (.cons false (.not (.isi (.x 0) .tup)) (.cons false (.not (.ch2 .le .le (.k (.int 1)) (.bi .len (.cons false (.x 0) .nil)) (.k (.int 8)))) (.cons false (.cmp .ne (.lc (.k (.int 1)) (.nm 1) (.e (.x 0)) (.so (.not (.call 25 (.cons false (.x 1) .nil)))) [1]) (.lst .nil)) .nil)))) (.cons (.ret (.k (.bl false))) .nil) .nil) (.cons (.ret (.cmp .eq (.lc (.k (.int 1)) (.tp [2, 1]) (.en (.x 0) .no) (.so (.not (.ch2 .le .lt (.k (.int 0)) (.x 1) (.bin .sub (.bi .len (.cons false (.x 0) .nil)) (.x 2))))) [2, 1]) (.lst .nil))) .nil))
def N_law_of_code : List Str := ["code", "number", "left", "found"]
def b_law_of_code : Ss := (.cons (.frz 2) (.cons (.frz 3) (.cons (.par [2, 3] (.cons false (.sq false (.rng (.cons false (.k (.int 1)) (.cons false (.bin .add (.bi .len (.cons false (.x 0) .nil)) (.k (.int 1))) .nil)))) (.cons false (.lst .nil) .nil))) (.cons (.forr (.nm 1) (.e (.x 0)) (.cons (.appp 3 2 (.x 1)) .nil)) (.cons (.ret (.bi .tuple (.cons false (.x 3) .nil))) .nil)))))
def N_law_number : List Str := ["code", "found", "spot", "number"]
def b_law_number : Ss := (.cons (.set (.nm 1) (.k (.int 0))) (.cons (.forr (.tp [2, 3]) (.en (.x 0) .no) (.cons (.set (.nm 1) (.bin .add (.bin .mul (.x 1) (.bin .sub (.bi .len (.cons false (.x 0) .nil)) (.x 2))) (.x 3))) .nil)) (.cons (.ret (.x 1)) .nil)))
def N_law_times : List Str := ["seats", "found", "number"]
def b_law_times : Ss := (.cons (.set (.nm 1) (.k (.int 1))) (.cons (.forr (.nm 2) (.rng (.cons false (.k (.int 2)) (.cons false (.bin .add (.x 0) (.k (.int 1))) .nil))) (.cons (.set (.nm 1) (.bin .mul (.x 1) (.x 2))) .nil)) (.cons (.ret (.x 1)) .nil)))
def N_law_right : List Str := ["row", "number", "code", "seats", "spot"]
def b_law_right : Ss := (.cons (.set (.tp [2, 3]) (.tup (.cons false (.call 31 (.cons false (.x 0) .nil)) (.cons false (.bi .len (.cons false (.x 0) .nil)) .nil)))) (.cons (.set (.nm 1) (.call 34 (.cons false (.x 2) .nil))) (.cons (.ite (.boo false (.cons false (.cmp .ne (.bi .repr (.cons false (.lst (.cons false (.call 12 (.cons false (.x 0) .nil)) (.cons false (.callk 12 .nil (.cons false (.x 0) .nil) [0]) .nil))) .nil)) (.bi .repr (.cons false (.lst (.cons false (.x 2) (.cons false (.x 2) .nil))) .nil))) (.cons false (.cmp .ne (.bi .repr (.cons false (.lst (.cons false (.call 15 (.cons false (.x 2) .nil)) (.cons false (.callk 15 .nil (.cons false (.x 2) .nil) [0]) .nil))) .nil)) (.bi .repr (.cons false (.lst (.cons false (.x 0) (.cons false (.x 0) .nil))) .nil))) .nil))) (.cons (.ret (.k (.bl false))) .nil) .nil) (.cons (.ite (.boo false (.cons false (.cmp .ne (.bi .repr (.cons false (.lst (.cons false (.call 16 (.cons false (.x 0) .nil)) (.cons false (.callk 16 .nil (.cons false (.x 0) .nil) [0]) .nil))) .nil)) (.bi .repr (.cons false (.lst (.cons false (.x 1) (.cons false (.x 1) .nil))) .nil))) (.cons false (.cmp .ne (.bi .repr (.cons false (.lst (.cons false (.call 18 (.cons false (.x 3) (.cons false (.x 1) .nil))) (.cons false (.callk 18 .nil (.cons false (.x 1) (.cons false (.x 3) .nil)) [1, 0]) .nil))) .nil)) (.bi .repr (.cons false (.lst (.cons false (.x 0) (.cons false (.x 0) .nil))) .nil))) .nil))) (.cons (.ret (.k (.bl false))) .nil) .nil) (.cons (.ite (.boo false (.cons false (.cmp .ne (.call 8 (.cons false (.x 0) .nil)) (.bi .sum (.cons false (.x 2) .nil))) (.cons false (.cmp .ne (.call 10 (.cons false (.x 0) .nil)) (.bi .tuple (.cons false (.lc (.x 4) (.nm 4) (.rng (.cons false (.k (.int 1)) (.cons false (.x 3) .nil))) (.so (.cmp .gt (.ix (.x 2) (.bin .sub (.x 4) (.k (.int 1)))) (.ix (.x 2) (.x 4)))) [4]) .nil))) .nil))) (.cons (.ret (.k (.bl false))) .nil) .nil) (.cons (.ret (.boo true (.cons false (.cmp .is (.call 13 (.cons false (.x 2) .nil)) (.k (.bl true))) (.cons false (.cmp .is (.callk 13 .nil (.cons false (.x 2) .nil) [0]) (.k (.bl true))) (.cons false (.cmp .eq (.call 33 (.cons false (.x 2) .nil)) (.x 0)) .nil))))) .nil))))))
def N_law_two_right : List Str := ["one", "other"]
def b_law_two_right : Ss := (.cons (.ret (.boo true (.cons false (.cmp .eq (.cmp .lt (.x 0) (.x 1)) (.cmp .lt (.call 12 (.cons false (.x 0) .nil)) (.call 12 (.cons false (.x 1) .nil)))) (.cons false (.cmp .eq (.cmp .lt (.x 0) (.x 1)) (.cmp .lt (.call 16 (.cons false (.x 0) .nil)) (.call 16 (.cons false (.x 1) .nil)))) (.cons false (.cmp .eq (.cmp .eq (.x 0) (.x 1)) (.cmp .eq (.call 16 (.cons false (.x 0) .nil)) (.call 16 (.cons false (.x 1) .nil)))) .nil))))) .nil)
def N_law_near_right : List Str := ["draw", "code", "spot", "some", "thing", "due"]
def b_law_near_right : Ss := (.cons (.set (.nm 2) (.call 21 (.cons false (.x 0) (.cons false (.bi .len (.cons false (.x 1) .nil)) .nil)))) (.cons (.set (.nm 3) (.lst (.cons false (.bin .add (.bin .add (.sl (.x 1) .no (.so (.x 2))) (.tup (.cons false (.bin .add (.ix (.x 1) (.x 2)) (.k (.int 1))) .nil))) (.sl (.x 1) (.so (.bin .add (.x 2) (.k (.int 1)))) .no)) (.cons false (.bin .add (.bin .add (.sl (.x 1) .no (.so (.x 2))) (.tup (.cons false (.bin .sub (.ix (.x 1) (.x 2)) (.k (.int 1))) .nil))) (.sl (.x 1) (.so (.bin .add (.x 2) (.k (.int 1)))) .no)) (.cons false (.bin .add (.x 1) (.tup (.cons false (.k (.int 0)) .nil))) (.cons false (.bin .add (.tup (.cons false (.k (.int 0)) .nil)) (.x 1)) (.cons false (.sl (.x 1) (.so (.k (.int 1))) .no) (.cons false (.bi .list (.cons false (.x 1) .nil)) .nil)))))))) (.cons (.frz 3) (.cons (.set (.nm 3) (.bin .add (.x 3) (.lst (.cons false (.bin .add (.bin .add (.sl (.x 1) .no (.so (.x 2))) (.tup (.cons false (.k .non) .nil))) (.sl (.x 1) (.so (.bin .add (.x 2) (.k (.int 1)))) .no)) (.cons false (.tup .nil) (.cons false (.k .non) (.cons false (.k (.int 5)) (.cons false (.tup (.cons false (.k (.bl true)) .nil)) (.cons false (.tup (.cons false (.k (.str "0")) .nil)) (.cons false (.bin .mul (.tup (.cons false (.k (.int 0)) .nil)) (.k (.int 9))) (.cons false (.rv (.x 1)) (.cons false (.bin .add (.tup (.cons false (.bin .sub (.bi .len (.cons false (.x 1) .nil)) (.k (.int 1))) .nil)) (.sl (.x 1) (.so (.k (.int 1))) .no)) .nil)))))))))))) (.cons (.frz 3) (.cons (.forr (.nm 4) (.e (.x 3)) (.cons (.set (.nm 5) (.call 32 (.cons false (.x 4) .nil))) (.cons (.ite (.boo false (.cons false (.not (.call 24 (.cons false (.call 13 (.cons false (.x 4) .nil)) (.cons false (.x 5) .nil)))) (.cons false (.boo true (.cons false (.not (.x 5)) (.cons false (.cmp .ne (.call 30 (.cons false (.caught (.call 15 (.cons false (.x 4) .nil))) .nil)) (.k (.str "code"))) .nil))) .nil))) (.cons (.ret (.k (.bl false))) .nil) .nil) (.cons (.ite (.boo true (.cons false (.x 5) (.cons false (.cmp .ne (.call 15 (.cons false (.x 4) .nil)) (.call 33 (.cons false (.x 4) .nil))) .nil))) (.cons (.ret (.k (.bl false))) .nil) .nil) .nil)))) (.cons (.ret (.k (.bl true))) .nil)))))))
def Nlaw : List Str := ["script", "draw", "turn", "row", "most", "number", "words", "work", "seats", "none", "odd", "bad"]
def blaw : Ss := (.cons (.set (.nm 1) (.call 19 (.cons false (.x 0) .nil))) (.cons (.forr (.nm 2) (.rng (.cons false (.bin .add (.k (.int 3)) (.bi .min (.cons false (.bi .len (.cons false (.x 0) .nil)) (.cons false (.k (.int 9)) .nil)))) .nil)) (.cons (.set (.nm 3) (.call 26 (.cons false (.x 1) (.cons false (.k (.int 8)) .nil)))) (.cons (.set (.tp [8, 9]) (.tup (.cons false (.bi .len (.cons false (.x 3) .nil)) (.cons false (.call 29 (.cons false (.x 1) (.cons false (.x 3) .nil))) .nil)))) (.cons (.ite (.boo false (.cons false (.not (.call 36 (.cons false (.x 3) .nil))) (.cons false (.not (.call 37 (.cons false (.x 3) (.cons false (.call 27 (.cons false (.x 1) (.cons false (.x 3) .nil))) .nil)))) (.cons false (.not (.call 38 (.cons false (.x 1) (.cons false (.call 31 (.cons false (.x 3) .nil)) .nil)))) .nil)))) (.cons (.ret (.k (.bl false))) .nil) .nil) (.cons (.set (.nm 4) (.call 35 (.cons false (.x 8) .nil))) (.cons (.forr (.nm 5) (.e (.lst (.cons false (.k (.int 0)) (.cons false (.bin .sub (.x 4) (.k (.int 1))) (.cons false (.call 21 (.cons false (.x 1) (.cons false (.x 4) .nil))) .nil))))) (.cons (.ite (.cmp .ne (.call 34 (.cons false (.call 31 (.cons false (.call 18 (.cons false (.x 8) (.cons false (.x 5) .nil))) .nil)) .nil)) (.x 5)) (.cons (.ret (.k (.bl false))) .nil) .nil) .nil)) (.cons (.set (.tp [10, 11]) (.tup (.cons false (.call 22 (.cons false (.x 1) (.cons false (.lst (.cons false (.k (.int 0)) (.cons false (.k (.int 9)) (.cons false (.neg (.k (.int 1))) (.cons false (.k .non) (.cons false (.k (.bl true)) (.cons false (.k (.str "3")) .nil))))))) .nil))) (.cons false (.call 22 (.cons false (.x 1) (.cons false (.lst (.cons false (.neg (.k (.int 1))) (.cons false (.x 4) (.cons false (.bin .add (.x 4) (.k (.int 5))) (.cons false (.k .non) (.cons false (.k (.bl true)) (.cons false (.k (.str "0")) .nil))))))) .nil))) .nil)))) (.cons (.set (.nm 6) (.lst (.cons false (.call 30 (.cons false (.caught (.call 18 (.cons false (.x 10) (.cons false (.x 11) .nil)))) .nil)) .nil))) (.cons (.app 6 (.call 30 (.cons false (.caught (.call 18 (.cons false (.x 8) (.cons false (.x 11) .nil)))) .nil))) (.cons (.ite (.cmp .ne (.x 6) (.lst (.cons false (.k (.str "number 'seats'")) (.cons false (.k (.str "number 'number'")) .nil)))) (.cons (.ret (.k (.bl false))) .nil) .nil) (.cons (.forr (.nm 7) (.e (.lst (.cons false (.k (.fn 12)) (.cons false (.k (.fn 16)) .nil)))) (.cons (.ite (.boo true (.cons false (.not (.call 28 (.cons false (.x 9) .nil))) (.cons false (.cmp .ne (.call 30 (.cons false (.caught (.callx 7 (.cons false (.x 9) .nil))) .nil)) (.k (.str "row"))) .nil))) (.cons (.ret (.k (.bl false))) .nil) .nil) .nil)) .nil))))))))))) (.cons (.ret (.cmp .eq (.call 16 (.cons false (.tup (.cons false (.k (.int 3)) (.cons false (.k (.int 1)) (.cons false (.k (.int 2)) .nil)))) .nil)) (.k (.int 4)))) .nil)))
def prog : List Fd := [⟨1, 1, bis_number⟩, ⟨3, 3, bis_between⟩, ⟨4, 4, bneed_between⟩, ⟨1, 2, bhas_each⟩, ⟨1, 1, bis_row⟩, ⟨1, 1, bneed_row⟩, ⟨1, 1, bneed_seats⟩, ⟨1, 4, blength_told⟩, ⟨1, 1, blength_of⟩, ⟨1, 2, bfalls_told⟩, ⟨1, 1, bfalls_of⟩, ⟨1, 4, bcode_told⟩, ⟨1, 1, bcode_of⟩, ⟨1, 3, bis_code⟩, ⟨1, 4, brow_from⟩, ⟨1, 1, brow_of_code⟩, ⟨1, 4, brow_number⟩, ⟨1, 3, bfactorial_of⟩, ⟨2, 5, brow_at⟩, ⟨1, 3, b_law_begun⟩, ⟨1, 6, b_law_mixed⟩, ⟨2, 3, b_law_take⟩, ⟨2, 2, b_law_pick⟩, ⟨2, 4, b_law_shuffled⟩, ⟨2, 2, b_law_says⟩, ⟨1, 1, b_law_is_number⟩, ⟨2, 10, b_law_row⟩, ⟨2, 7, b_law_mate⟩, ⟨1, 2, b_law_is_row⟩, ⟨2, 5, b_law_no_row⟩, ⟨1, 1, b_law_word⟩, ⟨1, 4, b_law_code⟩, ⟨1, 3, b_law_is_code⟩, ⟨1, 4, b_law_of_code⟩, ⟨1, 4, b_law_number⟩, ⟨1, 3, b_law_times⟩, ⟨1, 5, b_law_right⟩, ⟨2, 2, b_law_two_right⟩, ⟨2, 6, b_law_near_right⟩, ⟨1, 12, blaw⟩]
def fnT : List FnT := [⟨"is_number", false, ["thing"], []⟩, ⟨"is_between", false, ["thing", "low", "high"], []⟩, ⟨"need_between", false, ["number", "low", "high", "part"], []⟩, ⟨"has_each", false, ["thing"], []⟩, ⟨"is_row", false, ["thing"], []⟩, ⟨"need_row", false, ["row"], []⟩, ⟨"need_seats", false, ["seats"], []⟩, ⟨"length_told", false, ["row"], []⟩, ⟨"length_of", false, ["row"], []⟩, ⟨"falls_told", false, ["row"], []⟩, ⟨"falls_of", false, ["row"], []⟩, ⟨"code_told", false, ["row"], []⟩, ⟨"code_of", false, ["row"], [(0, ["row"], [0])]⟩, ⟨"is_code", false, ["thing"], [(0, ["thing"], [0])]⟩, ⟨"row_from", false, ["code"], []⟩, ⟨"row_of_code", false, ["code"], [(0, ["code"], [0])]⟩, ⟨"row_number", false, ["row"], [(0, ["row"], [0])]⟩, ⟨"factorial_of", false, ["seats"], []⟩, ⟨"row_at", false, ["seats", "number"], [(0, ["number", "seats"], [1, 0])]⟩, ⟨"_law_begun", false, ["script"], []⟩, ⟨"_law_mixed", false, ["draw"], []⟩, ⟨"_law_take", false, ["draw", "amount"], []⟩, ⟨"_law_pick", false, ["draw", "some"], []⟩, ⟨"_law_shuffled", false, ["draw", "some"], []⟩, ⟨"_law_says", false, ["found", "due"], []⟩, ⟨"_law_is_number", false, ["thing"], []⟩, ⟨"_law_row", false, ["draw", "most"], []⟩, ⟨"_law_mate", false, ["draw", "row"], []⟩, ⟨"_law_is_row", false, ["thing"], []⟩, ⟨"_law_no_row", false, ["draw", "row"], []⟩, ⟨"_law_word", true, ["error"], []⟩, ⟨"_law_code", false, ["row"], []⟩, ⟨"_law_is_code", false, ["thing"], []⟩, ⟨"_law_of_code", false, ["code"], []⟩, ⟨"_law_number", false, ["code"], []⟩, ⟨"_law_times", false, ["seats"], []⟩, ⟨"_law_right", true, ["row"], []⟩, ⟨"_law_two_right", false, ["one", "other"], []⟩, ⟨"_law_near_right", true, ["draw", "code"], []⟩, ⟨"law", true, ["script"], []⟩]
def tab : Tab := ⟨fnT, ["SwapError", "BadNumber", "BadRow", "BadCode"], [("MOST_SEATS", (.int 8)), ("row_number", .fn 16), ("code_of", .fn 12)], "_law_caught", [(.bool, "bool"), (.int, "int"), (.tup, "tuple"), ((.cls 1), "BadNumber"), ((.cls 2), "BadRow"), ((.cls 3), "BadCode")]⟩
def subL : List (List Bool) := [[true, false, false, false], [true, true, false, false], [true, false, true, false], [true, false, false, true]]
def subT (c d : Nat) : Option Bool := match subL[c]? with | some r => r[d]? | none => none
def fldT (c : Nat) : List Str := match c with
  | 0 => []
  | 1 => ["part"]
  | 2 => []
  | 3 => []
  | _ => []
def cfg : Cfg := ⟨subT, fldT, fun f => [16, 12].contains f, fun c => decide (c < 4)⟩

end K03
set_option Elab.async false
set_option linter.all false
set_option maxRecDepth 100000
set_option maxHeartbeats 1000000
namespace K03
open PySem VM VM.R
variable {n : Nat} {w : Dw}
@[simp] theorem cf0 : cfg.fldN 0 = [] := rfl
@[simp] theorem cf1 : cfg.fldN 1 = [("part" : Str)] := rfl
@[simp] theorem cf2 : cfg.fldN 2 = [] := rfl
@[simp] theorem cf3 : cfg.fldN 3 = [] := rfl
@[simp] theorem ct1 : cfg.takes 1 = true := rfl
@[simp] theorem ct2 : cfg.takes 2 = true := rfl
@[simp] theorem ct3 : cfg.takes 3 = true := rfl
@[simp] theorem cs11 : cfg.sub 1 1 = some true := rfl
@[simp] theorem cs21 : cfg.sub 2 1 = some false := rfl
@[simp] theorem cs31 : cfg.sub 3 1 = some false := rfl
@[simp] theorem cs22 : cfg.sub 2 2 = some true := rfl
@[simp] theorem cs32 : cfg.sub 3 2 = some false := rfl
@[simp] theorem cs33 : cfg.sub 3 3 = some true := rfl
@[simp] theorem cx12 : cfg.cx 12 = true := rfl
@[simp] theorem cx16 : cfg.cx 16 = true := rfl
/-- what may be asked for its type -/
def pl : D → Bool
  | .non | .bl _ | .int _ | .str _ | .tup _ | .lst _ | .emp => true
  | _ => false
def isI : D → Bool
  | .int _ => true
  | _ => false
def btw (d : D) (lo hi : Int) : Bool := match d with
  | .int i => decide (lo ≤ i) && decide (i ≤ hi)
  | _ => false
theorem s0 {d : D} (h : pl d = true) : den cfg prog (n + 1) 0 [d] w = .ok (.v (.bl (isI d))) w := by
  rw [den_s (fd := ⟨1, 1, bis_number⟩) rfl rfl (by decide)]
  cases d <;> first | (cases h; done) | simp -implicitDefEqProofs [bis_number, isaT, isI]
theorem s1 {d : D} {lo hi : Int} (h : pl d = true) : den cfg prog (n + 2) 1 [d, .int lo, .int hi] w = .ok (.v (.bl (btw d lo hi))) w := by
  rw [den_s (fd := ⟨3, 3, bis_between⟩) rfl rfl (by decide)]
  simp -implicitDefEqProofs [bis_between, s0 h]
  cases d <;> first | (cases h; done) | simp -implicitDefEqProofs [isI, btw]
theorem s2t {d : D} {lo hi : Int} {p : Str} (h : pl d = true) (hb : btw d lo hi = true) : den cfg prog (n + 3) 2 [d, .int lo, .int hi, .str p] w = .ok (.v .non) w := by
  rw [den_s (fd := ⟨4, 4, bneed_between⟩) rfl rfl (by decide)]
  simp -implicitDefEqProofs [bneed_between, s1 h, hb]
theorem s2f {d : D} {lo hi : Int} {p : Str} (h : pl d = true) (hb : btw d lo hi = false) : den cfg prog (n + 3) 2 [d, .int lo, .int hi, .str p] w = .exc ⟨1, [.str p]⟩ w := by
  rw [den_s (fd := ⟨4, 4, bneed_between⟩) rfl rfl (by decide)]
  simp -implicitDefEqProofs [bneed_between, s1 h, hb]
/-- each of 1 .. n once -/
def hasEach (ds : List D) : Bool := ds.all (btw · 1 ds.length) && match intsD ds with
  | some ns => decide ((dedup ns).length = ds.length)
  | none => false
theorem ints_of : ∀ {ds : List D} {a b : Int}, ds.all (btw · a b) = true → ∃ ns, intsD ds = some ns ∧ ns.length = ds.length
  | [], _, _, _ => ⟨[], rfl, rfl⟩
  | d :: ds, a, b, h => by
    rw [List.all_cons, Bool.and_eq_true] at h
    obtain ⟨ns, e, l⟩ := ints_of h.2
    cases d <;> first | (cases h.1; done) | skip
    rename_i i
    exact ⟨i :: ns, by show (intsD ds).map (i :: ·) = _; rw [e]; rfl, by simp -implicitDefEqProofs [l]⟩
theorem s3 {ds : List D} (h : ∀ d ∈ ds, pl d = true) (hl : ds.length ≤ 1000) : den cfg prog (n + 3) 3 [.tup ds] w = .ok (.v (.bl (hasEach ds))) w := by
  rw [den_s (fd := ⟨1, 2, bhas_each⟩) rfl rfl (by decide)]
  simp -implicitDefEqProofs [bhas_each]
  rw [lcR_map (e := id) (g := fun d => .bl (btw d 1 ds.length)) (l := ds) (by simp) (by omega) (fun d hd => by rw [lcTurn_eq]; simp -implicitDefEqProofs [s1 (h d hd)])]
  simp -implicitDefEqProofs [all_n]
  cases hb : ds.all (btw · 1 ds.length) with
  | false => simp -implicitDefEqProofs [hasEach, hb]
  | true =>
    obtain ⟨ns, e, l⟩ := ints_of hb
    simp -implicitDefEqProofs [setl_of (a := .v (.tup ds)) rfl e (by omega), hasEach, hb, e]
    by_cases q : (dedup ns).length = ds.length
    · simp -implicitDefEqProofs [q]
    · simp -implicitDefEqProofs [q]
      omega
def plA : D → Bool
  | .tup ds => ds.all pl && decide (ds.length ≤ 1000)
  | d => pl d
def isRow : D → Bool
  | .tup ds => decide ((1 : Int) ≤ (ds.length : Int)) && decide ((ds.length : Int) ≤ 8) && hasEach ds
  | _ => false
theorem s4 {d : D} (h : plA d = true) : den cfg prog (n + 4) 4 [d] w = .ok (.v (.bl (isRow d))) w := by
  rw [den_s (fd := ⟨1, 1, bis_row⟩) rfl rfl (by decide)]
  cases d <;> first | (cases h; done) | (simp -implicitDefEqProofs [bis_row, isaT, isRow]; done) | skip
  rename_i ds
  simp only [plA, Bool.and_eq_true, List.all_eq_true, decide_eq_true_eq] at h
  simp -implicitDefEqProofs [bis_row, isaT, isRow, s3 h.1 h.2, Bool.and_assoc]
theorem s5t {d : D} (h : plA d = true) (h2 : isRow d = true) : den cfg prog (n + 5) 5 [d] w = .ok (.v .non) w := by
  rw [den_s (fd := ⟨1, 1, bneed_row⟩) rfl rfl (by decide)]
  simp -implicitDefEqProofs [bneed_row, s4 h, h2]
theorem s5f {d : D} (h : plA d = true) (h2 : isRow d = false) : den cfg prog (n + 5) 5 [d] w = .exc ⟨2, []⟩ w := by
  rw [den_s (fd := ⟨1, 1, bneed_row⟩) rfl rfl (by decide)]
  simp -implicitDefEqProofs [bneed_row, s4 h, h2]
theorem eq_ints : ∀ {ds : List D} {ns : List Int}, intsD ds = some ns → ds = ns.map .int
  | [], ns, e => by cases e; rfl
  | d :: ds, ns, e => by
    cases d <;> first | (cases e; done) | skip
    rename_i i
    have e : (intsD ds).map (i :: ·) = some ns := e
    cases q : intsD ds with
    | none => rw [q] at e; cases e
    | some ms => rw [q] at e; cases e; rw [eq_ints q]; rfl
theorem cut1 (l : List D) : cutD l (some 1) none = l.tail := by
  unfold cutD
  rw [show HT.sIx l.length 0 (some 1) = min 1 l.length from HT.sIx_nat l.length 0 1, HT.sIx_none]
  cases l with
  | nil => rfl
  | cons x r =>
    rw [show min 1 (x :: r).length = 1 by rw [List.length_cons]; omega]
    exact List.take_of_length_le (by simp)
end K03
set_option Elab.async false
set_option linter.all false
set_option maxRecDepth 100000
set_option maxHeartbeats 1000000
/-! K03v: rows, codes and numbers, in plain lists. -/
namespace K03
open PySem
def cnt (x : Int) (r : List Int) : Nat := (r.filter fun y => decide (y < x)).length
def codeL : List Int → List Int
  | [] => []
  | x :: r => (cnt x r : Int) :: codeL r
def pops : List Int → List Int → List Int
  | _, [] => []
  | l, x :: c => l.getD x.toNat 0 :: pops (l.eraseIdx x.toNat) c
def oneTo (n : Nat) : List Int := (List.range n).map fun i : Nat => 1 + (i : Int)
def fromL (c : List Int) : List Int := pops (oneTo c.length) c
def valid : List Int → Bool
  | [] => true
  | x :: c => decide (0 ≤ x) && decide (x ≤ c.length) && valid c
def numR (a : Int) : List Int → Int
  | [] => a
  | x :: r => numR (a * (r.length + 1) + x) r
def dg (m : Nat) : Nat → Int → List Int
  | 0, _ => []
  | t + 1, k => k.fmod m :: dg (m + 1) t (k.fdiv m)
def quo (m : Nat) : Nat → Int → Int
  | 0, k => k
  | t + 1, k => quo (m + 1) t (k.fdiv m)
def fac : Nat → Int
  | 0 => 1
  | n + 1 => (n + 1) * fac n
def codeAt (n : Nat) (k : Int) : List Int := (dg 1 n k).reverse
theorem fac_pos : ∀ n, 0 < fac n
  | 0 => by decide
  | n + 1 => Int.mul_pos (by omega) (fac_pos n)
theorem codeL_len : ∀ r : List Int, (codeL r).length = r.length
  | [] => rfl
  | x :: r => by show (codeL r).length + 1 = r.length + 1; rw [codeL_len r]
theorem codeL_valid : ∀ r : List Int, valid (codeL r) = true
  | [] => rfl
  | x :: r => by
    have h : cnt x r ≤ r.length := List.length_filter_le _ _
    unfold codeL valid
    rw [codeL_valid r, codeL_len]
    simp only [Bool.and_true, Bool.and_eq_true, decide_eq_true_eq]
    omega
theorem get_erase2 {α : Type} : ∀ {l : List α} {i : Nat} (h : i < l.length), (l[i] :: l.eraseIdx i).Perm l
  | x :: l, 0, _ => List.Perm.refl _
  | x :: l, i + 1, h => by
    show (l[i]'(by simpa using h) :: x :: l.eraseIdx i).Perm (x :: l)
    exact (List.Perm.swap _ _ _).trans ((get_erase2 (by simpa using h)).cons x)
theorem getD_of {l : List Int} {i : Nat} (h : i < l.length) : l.getD i 0 = l[i] := by
  rw [List.getD_eq_getElem?_getD, List.getElem?_eq_getElem h]; rfl
def Up (l : List Int) : Prop := l.Pairwise (· < ·)
theorem up_erase {l : List Int} (h : Up l) (i : Nat) : Up (l.eraseIdx i) := h.sublist (List.eraseIdx_sublist l i)
/-- the place of a thing, from how many are below it -/
theorem cnt_at : ∀ {l : List Int} {i : Nat} (h : Up l) (hi : i < l.length), cnt l[i] (l.eraseIdx i) = i
  | a :: l, 0, h, _ => by
    have h1 := (List.pairwise_cons.mp h).1
    show (l.filter fun y => decide (y < a)).length = 0
    rw [List.filter_eq_nil_iff.mpr]
    · rfl
    · intro y hy
      have := h1 y hy
      simp
      omega
  | a :: l, i + 1, h, hi => by
    have hi' : i < l.length := by simpa using hi
    have h1 := (List.pairwise_cons.mp h).1 l[i] (List.getElem_mem hi')
    show ((a :: l.eraseIdx i).filter fun y => decide (y < l[i])).length = i + 1
    rw [List.filter_cons_of_pos (by simp [h1]), List.length_cons]
    exact congrArg (· + 1) (cnt_at (List.pairwise_cons.mp h).2 hi')
theorem cnt_perm {x : Int} {a b : List Int} (h : a.Perm b) : cnt x a = cnt x b := (h.filter _).length_eq
theorem head_at {l : List Int} {y : Int} {r : List Int} (h : Up l) (p : (y :: r).Perm l) : ∃ i, ∃ hi : i < l.length, l[i] = y ∧ r.Perm (l.eraseIdx i) ∧ cnt y r = i := by
  obtain ⟨i, hi, e⟩ := List.getElem_of_mem (p.subset List.mem_cons_self)
  have q : r.Perm (l.eraseIdx i) := by
    have := p.trans (get_erase2 hi).symm
    rw [e] at this
    exact this.cons_inv
  refine ⟨i, hi, e, q, ?_⟩
  rw [cnt_perm q, ← e]
  exact cnt_at h hi
/-- a row from its code -/
theorem pops_code : ∀ {r l : List Int}, Up l → r.Perm l → pops l (codeL r) = r
  | [], l, _, _ => rfl
  | y :: r, l, h, p => by
    obtain ⟨i, hi, e, q, c⟩ := head_at h p
    show l.getD ((cnt y r : Int)).toNat 0 :: pops (l.eraseIdx ((cnt y r : Int)).toNat) (codeL r) = _
    rw [c, Int.toNat_natCast, getD_of hi, e, pops_code (up_erase h i) q]
theorem erase_len {l : List Int} {i : Nat} (hi : i < l.length) : (l.eraseIdx i).length = l.length - 1 := List.length_eraseIdx_of_lt hi
theorem pops_perm : ∀ {c l : List Int}, valid c = true → l.length = c.length → (pops l c).Perm l
  | [], l, _, e => by rw [List.length_eq_zero_iff.mp e]; exact List.Perm.refl _
  | x :: c, l, v, e => by
    unfold valid at v
    simp only [Bool.and_eq_true, decide_eq_true_eq] at v
    have hi : x.toNat < l.length := by rw [e, List.length_cons]; omega
    show (l.getD x.toNat 0 :: pops (l.eraseIdx x.toNat) c).Perm l
    rw [getD_of hi]
    exact ((pops_perm v.2 (by rw [erase_len hi, e, List.length_cons]; omega)).cons _).trans (get_erase2 hi)
/-- a code from its row -/
theorem code_pops : ∀ {c l : List Int}, Up l → valid c = true → l.length = c.length → codeL (pops l c) = c
  | [], l, _, _, _ => rfl
  | x :: c, l, h, v, e => by
    have hv := v
    unfold valid at v
    simp only [Bool.and_eq_true, decide_eq_true_eq] at v
    have hi : x.toNat < l.length := by rw [e, List.length_cons]; omega
    have he : (l.eraseIdx x.toNat).length = c.length := by rw [erase_len hi, e, List.length_cons]; omega
    show (cnt (l.getD x.toNat 0) (pops (l.eraseIdx x.toNat) c) : Int) :: codeL (pops (l.eraseIdx x.toNat) c) = _
    rw [code_pops (up_erase h _) v.2 he, getD_of hi, cnt_perm (pops_perm v.2 he), cnt_at h hi]
    congr 1
    omega
theorem up_oneTo (n : Nat) : Up (oneTo n) := by
  unfold Up oneTo
  rw [List.pairwise_map]
  exact (List.pairwise_lt_range (n := n)).imp (fun h => by omega)
theorem oneTo_len (n : Nat) : (oneTo n).length = n := by rw [oneTo, List.length_map, List.length_range]
theorem pops_len : ∀ (c l : List Int), (pops l c).length = c.length
  | [], l => rfl
  | x :: c, l => by show (pops _ c).length + 1 = c.length + 1; rw [pops_len c]
theorem from_code {r : List Int} (h : r.Perm (oneTo r.length)) : fromL (codeL r) = r := by
  unfold fromL
  rw [codeL_len]
  exact pops_code (up_oneTo _) h
theorem code_from {c : List Int} (h : valid c = true) : codeL (fromL c) = c := code_pops (up_oneTo _) h (oneTo_len _)
/-! ### numbers -/
theorem dg_num : ∀ (c : List Int) (a : Int) (t : Nat), valid c = true → dg 1 (c.length + t) (numR a c) = c.reverse ++ dg (c.length + 1) t a
  | [], a, t, _ => by
    show dg 1 (0 + t) a = [] ++ dg (0 + 1) t a
    rw [Nat.zero_add]; rfl
  | x :: c, a, t, v => by
    unfold valid at v
    simp only [Bool.and_eq_true, decide_eq_true_eq] at v
    have ih := dg_num c (a * (c.length + 1) + x) (t + 1) v.2
    rw [List.length_cons, show c.length + 1 + t = c.length + (t + 1) by omega]
    show dg 1 (c.length + (t + 1)) (numR (a * (c.length + 1) + x) c) = _
    have hm : (a * ((c.length : Int) + 1) + x).fmod ((c.length + 1 : Nat) : Int) = x := by
      rw [Int.fmod_eq_emod_of_nonneg _ (by omega), show a * ((c.length : Int) + 1) + x = x + ((c.length + 1 : Nat) : Int) * a by rw [Int.natCast_succ, Int.mul_comm]; omega, Int.add_mul_emod_self_left]
      exact Int.emod_eq_of_lt v.1.1 (by omega)
    have hd : (a * ((c.length : Int) + 1) + x).fdiv ((c.length + 1 : Nat) : Int) = a := by
      rw [Int.fdiv_eq_ediv_of_nonneg _ (by omega), show a * ((c.length : Int) + 1) + x = x + ((c.length + 1 : Nat) : Int) * a by rw [Int.natCast_succ, Int.mul_comm]; omega, Int.add_mul_ediv_left _ _ (by omega), Int.ediv_eq_zero_of_lt v.1.1 (by omega)]
      omega
    rw [ih, List.reverse_cons, List.append_assoc]
    show c.reverse ++ ((a * ((c.length : Int) + 1) + x).fmod ((c.length + 1 : Nat) : Int) :: dg (c.length + 1 + 1) t ((a * ((c.length : Int) + 1) + x).fdiv ((c.length + 1 : Nat) : Int))) = _
    rw [hm, hd]
    rfl
theorem at_num {c : List Int} (v : valid c = true) : codeAt c.length (numR 0 c) = c := by
  have := dg_num c 0 0 v
  rw [Nat.add_zero] at this
  unfold codeAt
  rw [this]
  show (c.reverse ++ []).reverse = c
  rw [List.append_nil, List.reverse_reverse]
theorem num_bd : ∀ (c : List Int) (a : Int), valid c = true → 0 ≤ a → a * fac c.length ≤ numR a c ∧ numR a c < (a + 1) * fac c.length
  | [], a, _, _ => by
    show a * 1 ≤ a ∧ a < (a + 1) * 1
    omega
  | x :: c, a, v, ha => by
    unfold valid at v
    simp only [Bool.and_eq_true, decide_eq_true_eq] at v
    have h0 : 0 ≤ a * ((c.length : Int) + 1) := Int.mul_nonneg ha (by omega)
    obtain ⟨i1, i2⟩ := num_bd c (a * (c.length + 1) + x) v.2 (by omega)
    have fp := fac_pos c.length
    show a * (((c.length : Nat) + 1 : Int) * fac c.length) ≤ numR (a * (c.length + 1) + x) c ∧ numR (a * (c.length + 1) + x) c < (a + 1) * (((c.length : Nat) + 1 : Int) * fac c.length)
    rw [← Int.mul_assoc, ← Int.mul_assoc]
    have e1 : a * ((c.length : Int) + 1) * fac c.length ≤ (a * ((c.length : Int) + 1) + x) * fac c.length := Int.mul_le_mul_of_nonneg_right (by omega) (by omega)
    have e2 : (a * ((c.length : Int) + 1) + x + 1) * fac c.length ≤ ((a + 1) * ((c.length : Int) + 1)) * fac c.length := by
      refine Int.mul_le_mul_of_nonneg_right ?_ (by omega)
      rw [Int.add_mul, Int.one_mul]
      omega
    omega
theorem num_lt {c : List Int} (v : valid c = true) : 0 ≤ numR 0 c ∧ numR 0 c < fac c.length := by
  have := num_bd c 0 v (Int.le_refl _)
  rw [Int.zero_mul, Int.zero_add, Int.one_mul] at this
  exact this
theorem dg_snoc : ∀ (m t : Nat) (k : Int), dg m (t + 1) k = dg m t k ++ [(quo m t k).fmod ((m + t : Nat) : Int)]
  | m, 0, k => rfl
  | m, t + 1, k => by
    show k.fmod m :: dg (m + 1) (t + 1) (k.fdiv m) = k.fmod m :: (dg (m + 1) t (k.fdiv m) ++ [(quo (m + 1) t (k.fdiv m)).fmod ((m + (t + 1) : Nat) : Int)])
    rw [dg_snoc (m + 1) t, show m + (t + 1) = m + 1 + t by omega]
theorem quo_snoc : ∀ (m t : Nat) (k : Int), quo m (t + 1) k = (quo m t k).fdiv ((m + t : Nat) : Int)
  | m, 0, k => rfl
  | m, t + 1, k => by
    show quo (m + 1) (t + 1) (k.fdiv m) = (quo (m + 1) t (k.fdiv m)).fdiv ((m + (t + 1) : Nat) : Int)
    rw [quo_snoc (m + 1) t, show m + (t + 1) = m + 1 + t by omega]
theorem dg_len : ∀ (t m : Nat) (k : Int), (dg m t k).length = t
  | 0, _, _ => rfl
  | t + 1, m, k => by show (dg (m + 1) t _).length + 1 = t + 1; rw [dg_len t]
theorem num_at : ∀ (t : Nat) (k : Int), numR (quo 1 t k) (codeAt t k) = k
  | 0, k => rfl
  | t + 1, k => by
    unfold codeAt
    rw [dg_snoc, quo_snoc, List.reverse_append]
    show numR ((quo 1 t k).fdiv ((1 + t : Nat) : Int) * (((dg 1 t k).reverse.length : Int) + 1) + (quo 1 t k).fmod ((1 + t : Nat) : Int)) (codeAt t k) = k
    rw [List.length_reverse, dg_len, show ((t : Int) + 1) = ((1 + t : Nat) : Int) by omega, Int.mul_comm, Int.mul_fdiv_add_fmod, num_at t k]
theorem dg_valid : ∀ (t : Nat) (k : Int), valid (codeAt t k) = true
  | 0, k => rfl
  | t + 1, k => by
    unfold codeAt
    rw [dg_snoc, List.reverse_append]
    show (decide (0 ≤ (quo 1 t k).fmod ((1 + t : Nat) : Int)) && decide ((quo 1 t k).fmod ((1 + t : Nat) : Int) ≤ ((dg 1 t k).reverse.length : Int)) && valid (codeAt t k)) = true
    have h1 := Int.fmod_nonneg_of_pos (quo 1 t k) (b := ((1 + t : Nat) : Int)) (by omega)
    have h2 := Int.fmod_lt_of_pos (quo 1 t k) (b := ((1 + t : Nat) : Int)) (by omega)
    rw [dg_valid t k, List.length_reverse, dg_len, decide_eq_true h1, decide_eq_true (by omega)]
    rfl
theorem quo_bd : ∀ (t : Nat) (k : Int), 0 ≤ k → 0 ≤ quo 1 t k ∧ quo 1 t k * fac t ≤ k
  | 0, k, h => by show 0 ≤ k ∧ k * 1 ≤ k; omega
  | t + 1, k, h => by
    obtain ⟨i1, i2⟩ := quo_bd t k h
    rw [quo_snoc]
    have hp : (0 : Int) < ((1 + t : Nat) : Int) := by omega
    refine ⟨Int.fdiv_nonneg i1 (by omega), ?_⟩
    show (quo 1 t k).fdiv ((1 + t : Nat) : Int) * (((t : Nat) + 1 : Int) * fac t) ≤ k
    rw [← Int.mul_assoc, show ((t : Nat) + 1 : Int) = ((1 + t : Nat) : Int) by omega]
    have e : (quo 1 t k).fdiv ((1 + t : Nat) : Int) * ((1 + t : Nat) : Int) ≤ quo 1 t k := by
      have := Int.mul_fdiv_add_fmod (quo 1 t k) ((1 + t : Nat) : Int)
      have h1 := Int.fmod_nonneg_of_pos (quo 1 t k) hp
      rw [Int.mul_comm] at this
      omega
    exact Int.le_trans (Int.mul_le_mul_of_nonneg_right e (Int.le_of_lt (fac_pos t))) i2
theorem num_of_at {t : Nat} {k : Int} (h0 : 0 ≤ k) (h : k < fac t) : numR 0 (codeAt t k) = k := by
  obtain ⟨q1, q2⟩ := quo_bd t k h0
  have q : quo 1 t k = 0 := by
    by_cases hq : quo 1 t k = 0
    · exact hq
    · have : 1 * fac t ≤ quo 1 t k * fac t := Int.mul_le_mul_of_nonneg_right (by omega) (Int.le_of_lt (fac_pos t))
      omega
  have := num_at t k
  rwa [q] at this
theorem codeAt_len (t : Nat) (k : Int) : (codeAt t k).length = t := by rw [codeAt, List.length_reverse, dg_len]
/-! ### the order -/
theorem numR_mono : ∀ {c d : List Int} {a b : Int}, valid c = true → valid d = true → c.length = d.length → 0 ≤ a → a < b → numR a c < numR b d
  | [], [], _, _, _, _, _, _, h => h
  | x :: c, y :: d, a, b, v, u, e, h0, h => by
    unfold valid at v u
    simp only [Bool.and_eq_true, decide_eq_true_eq] at v u
    have e3 : c.length = d.length := by simpa using e
    have m1 : 0 ≤ a * ((c.length : Int) + 1) := Int.mul_nonneg h0 (by omega)
    have m2 : (a + 1) * ((c.length : Int) + 1) ≤ b * ((c.length : Int) + 1) := Int.mul_le_mul_of_nonneg_right (by omega) (by omega)
    rw [Int.add_mul, Int.one_mul] at m2
    show numR (a * (c.length + 1) + x) c < numR (b * (d.length + 1) + y) d
    refine numR_mono v.2 u.2 e3 (by omega) ?_
    rw [← e3]
    omega
theorem num_lex : ∀ {c d : List Int} {a : Int}, valid c = true → valid d = true → c.length = d.length → 0 ≤ a → decide (numR a c < numR a d) = HT.lexLt c d
  | [], [], a, _, _, _, _ => by show decide (a < a) = false; simp
  | x :: c, y :: d, a, v, u, e, h0 => by
    have v' := v
    have u' := u
    unfold valid at v u
    simp only [Bool.and_eq_true, decide_eq_true_eq] at v u
    have e3 : c.length = d.length := by simpa using e
    have m1 : 0 ≤ a * ((c.length : Int) + 1) := Int.mul_nonneg h0 (by omega)
    rw [HT.lexLt_cons]
    show decide (numR (a * (c.length + 1) + x) c < numR (a * (d.length + 1) + y) d) = _
    rw [← e3]
    by_cases q : x = y
    · subst q
      rw [if_pos rfl]
      exact num_lex v.2 u.2 e3 (by omega)
    · rw [if_neg q]
      by_cases q2 : x < y
      · rw [decide_eq_true q2]
        exact decide_eq_true (numR_mono v.2 u.2 e3 (by omega) (by omega))
      · rw [decide_eq_false q2]
        have := numR_mono (a := a * ((c.length : Int) + 1) + y) (b := a * ((c.length : Int) + 1) + x) u.2 v.2 e3.symm (by omega) (by omega)
        exact decide_eq_false (by omega)
theorem code_lex : ∀ {a b l : List Int}, Up l → a.Perm l → b.Perm l → HT.lexLt a b = HT.lexLt (codeL a) (codeL b)
  | [], [], _, _, _, _ => rfl
  | [], y :: b, l, _, p, q => by have := (p.trans q.symm).length_eq; cases this
  | x :: a, [], l, _, p, q => by have := (p.trans q.symm).length_eq; cases this
  | x :: a, y :: b, l, h, p, q => by
    obtain ⟨i, hi, e, p2, c⟩ := head_at h p
    obtain ⟨j, hj, e2, q2, c2⟩ := head_at h q
    show _ = HT.lexLt ((cnt x a : Int) :: codeL a) ((cnt y b : Int) :: codeL b)
    rw [HT.lexLt_cons, HT.lexLt_cons, c, c2]
    by_cases hij : i = j
    · subst hij
      rw [if_pos (e.symm.trans e2), if_pos rfl]
      exact code_lex (up_erase h i) p2 q2
    · have lt : ∀ i j (hi : i < l.length) (hj : j < l.length), i < j → l[i] < l[j] := fun i j hi hj z => List.pairwise_iff_getElem.mp h i j hi hj z
      have hne : x ≠ y := fun z => by
        rw [← e, ← e2] at z
        rcases Nat.lt_or_gt_of_ne hij with z1 | z1
        · have := lt i j hi hj z1; omega
        · have := lt j i hj hi z1; omega
      rw [if_neg hne, if_neg (by omega)]
      refine decide_eq_decide.mpr ?_
      rw [← e, ← e2]
      constructor
      · intro z
        rcases Nat.lt_or_gt_of_ne hij with z1 | z1
        · omega
        · have := lt j i hj hi z1; omega
      · intro z
        exact lt i j hi hj (by omega)
end K03
set_option Elab.async false
set_option linter.all false
set_option maxRecDepth 100000
set_option maxHeartbeats 1000000
namespace K03
open PySem VM VM.R
variable {n : Nat} {w : Dw}
theorem big_len {r : List Int} (h : r.length ≤ 1000) : big62 (r.length : Int) = true := big62_of (by omega) (by omega)
theorem fold_T {r : List Int} : D.tup (r.map .int) = T r := rfl
theorem big1 : big62 1 = true := rfl
theorem big0 : big62 0 = true := rfl
def enumI (p : Nat) : List Int → List D
  | [] => []
  | x :: g => .tup [.int p, .int x] :: enumI (p + 1) g
theorem enumI_eq : ∀ (s : List Int) (p : Nat), ((s.map D.int).zipIdx p).map (fun q : D × Nat => D.tup [.int (0 + (q.2 : Nat)), q.1]) = enumI p s
  | [], p => rfl
  | x :: s, p => by
    rw [List.map_cons, List.zipIdx_cons, List.map_cons, enumI_eq s (p + 1)]
    show D.tup [.int (0 + (p : Nat)), .int x] :: _ = _
    rw [Int.zero_add]; rfl
theorem enumD_I (s : List Int) : enumD 0 (s.map .int) = enumI 0 s := enumI_eq s 0
def upL (p : Nat) : Nat → List D
  | 0 => []
  | m + 1 => .int p :: upL (p + 1) m
theorem rngL_up : ∀ (m p : Nat), rngL (p : Int) 1 m = upL p m
  | 0, p => rfl
  | m + 1, p => by
    unfold upL
    rw [← rngL_up m (p + 1)]
    unfold rngL
    rw [List.range_succ_eq_map, List.map_cons, List.map_map]
    refine congr (congrArg List.cons ?_) ?_
    · show D.int ((p : Int) + (0 : Nat) * 1) = D.int p
      congr 1
    · refine List.map_congr_left fun i _ => ?_
      show D.int ((p : Int) + ((i + 1 : Nat) : Int) * 1) = D.int (((p + 1 : Nat) : Int) + (i : Nat) * 1)
      congr 1; omega
theorem enumD_gen (ds : List D) : enumD 0 ds = (List.range ds.length).map fun i : Nat => .tup [.int (i : Int), ds.getD i .non] := by
  unfold enumD
  refine List.ext_getElem ?_ fun i h1 h2 => ?_
  · simp
  · simp only [List.length_map, List.length_zipIdx] at h1
    simp only [List.getElem_map, List.getElem_zipIdx, List.getElem_range, Nat.zero_add, Int.zero_add]
    rw [List.getD_eq_getElem?_getD, List.getElem?_eq_getElem h1]
    rfl
theorem codeL_rng : ∀ r : List Int, codeL r = (List.range r.length).map fun i => (cnt (ix r i) (r.drop (i + 1)) : Int)
  | [] => rfl
  | x :: r => by
    rw [List.length_cons, List.range_succ_eq_map, List.map_cons, List.map_map]
    show (cnt x r : Int) :: codeL r = _
    rw [codeL_rng r]
    rfl
theorem inner {C : Cfg} {Φ : Phi} {ρ : En} {j : Nat} {x : Int} {l : List Int} (hl : l.length ≤ 1000) (hj : ρ[j]? = some .no) (h3 : j = 3) (h2 : ∀ y, (ρ.set 3 (.v (.int y)))[2]? = some (.v (.int x))) (hs : ∀ y, (ρ.set 3 (.v (.int y)))[3]? = some (.v (.int y))) :
    lcR C Φ (.k (.int 1)) (.nm 3) (.so (.cmp .lt (.x 3) (.x 2))) ρ (l.map .int) w = .ok (.n ((l.filter fun y => decide (y < x)).map fun _ => D.int 1)) w := by
  rw [lcR_pure (e := D.int) (l := l) (g := fun y => if decide (y < x) = true then some (.int 1) else none) rfl (by omega) (fun y hy => by
    rw [lcTurn_eq]
    simp -implicitDefEqProofs [h2, hs]), fm_filter]
def codeE : E := .lc (.bi .len (.cons false (.lc (.k (.int 1)) (.nm 3) (.e (.sl (.x 0) (.so (.bin .add (.x 1) (.k (.int 1)))) .no)) (.so (.cmp .lt (.x 3) (.x 2))) [3]) .nil)) (.tp [1, 2]) (.en (.x 0) .no) .no [1, 2]
theorem code_ev {C : Cfg} {Φ : Phi} {r : List Int} (h : r.length ≤ 1000) : ev C Φ codeE [.v (T r), .no, .no, .no] w = .ok (.n ((codeL r).map .int)) w := by
  unfold codeE
  simp -implicitDefEqProofs
  rw [enumD_ints, lcR_map (g := fun i : Nat => .int (cnt (ix r i) (r.drop (i + 1)))) rfl (by simp; omega) (fun i hi => by
    have hi := List.mem_range.mp hi
    rw [lcTurn_eq]
    simp -implicitDefEqProofs [cut_from (r.map .int) (i := (i : Int) + 1) (j := i + 1) (by omega)]
    rw [← List.map_drop, inner (x := ix r i) (j := 3) (by rw [List.length_drop]; omega) rfl rfl (fun _ => rfl) (fun _ => rfl)]
    simp -implicitDefEqProofs [cnt])]
  rw [codeL_rng, List.map_map]
  rfl
theorem s11 {r : List Int} (h : r.length ≤ 1000) : den cfg prog (n + 1) 11 [T r] w = .ok (.n ((codeL r).map .int)) w := by
  rw [den_s (fd := ⟨1, 4, bcode_told⟩) rfl rfl (by decide)]
  show (exSs cfg (den cfg prog n) (.cons (.ret codeE) .nil) [.v (T r), .no, .no, .no] w).bind outR = _
  simp -implicitDefEqProofs [code_ev h, fold_T]
theorem plT {r : List Int} (h : r.length ≤ 1000) : plA (T r) = true := by
  simp -implicitDefEqProofs [plA, T, h, pl]
theorem s12 {r : List Int} (h : r.length ≤ 1000) (hr : isRow (T r) = true) : den cfg prog (n + 6) 12 [T r] w = .ok (.v (T (codeL r))) w := by
  rw [den_s (fd := ⟨1, 1, bcode_of⟩) rfl rfl (by decide)]
  simp -implicitDefEqProofs [bcode_of, s5t (plT h) hr, s11 h, fold_T]
theorem s12f {d : D} (h : plA d = true) (hr : isRow d = false) : den cfg prog (n + 6) 12 [d] w = .exc ⟨2, []⟩ w := by
  rw [den_s (fd := ⟨1, 1, bcode_of⟩) rfl rfl (by decide)]
  simp -implicitDefEqProofs [bcode_of, s5f h hr]
theorem s31 {r : List Int} (h : r.length ≤ 1000) : den cfg prog (n + 1) 31 [T r] w = .ok (.v (T (codeL r))) w := by
  rw [den_s (fd := ⟨1, 4, b_law_code⟩) rfl rfl (by decide)]
  show (exSs cfg (den cfg prog n) (.cons (.ret (.bi .tuple (.cons false codeE .nil))) .nil) [.v (T r), .no, .no, .no] w).bind outR = _
  simp -implicitDefEqProofs [code_ev h, fold_T]
theorem s7 {r : List Int} (h : r.length ≤ 1000) : den cfg prog (n + 1) 7 [T r] w = .ok (.v (.int (codeL r).sum)) w := by
  rw [den_s (fd := ⟨1, 4, blength_told⟩) rfl rfl (by decide)]
  show (exSs cfg (den cfg prog n) (.cons (.ret (.bi .sum (.cons false codeE .nil))) .nil) [.v (T r), .no, .no, .no] w).bind outR = _
  simp -implicitDefEqProofs [code_ev h, sum_of (a := .n ((codeL r).map .int)) rfl (intsD_ints _)]
theorem s8 {r : List Int} (h : r.length ≤ 1000) (hr : isRow (T r) = true) : den cfg prog (n + 6) 8 [T r] w = .ok (.v (.int (codeL r).sum)) w := by
  rw [den_s (fd := ⟨1, 1, blength_of⟩) rfl rfl (by decide)]
  simp -implicitDefEqProofs [blength_of, s5t (plT h) hr, s7 h]
def fallsL (r : List Int) : List Int := ((List.range (r.length - 1)).filter fun i => decide (ix r (i + 1) < ix r i)).map fun i : Nat => 1 + (i : Int)
theorem falls_lc {C : Cfg} {Φ : Phi} {r : List Int} (h : r.length ≤ 1000) : lcR C Φ (.x 1) (.nm 1) (.so (.cmp .gt (.ix (.x 0) (.bin .sub (.x 1) (.k (.int 1)))) (.ix (.x 0) (.x 1)))) [.v (T r), .no] ((List.range (r.length - 1)).map (up 1)) w = .ok (.n ((fallsL r).map .int)) w := by
  rw [lcR_pure (g := fun i : Nat => if decide (ix r (i + 1) < ix r i) = true then some (.int (1 + (i : Int))) else none) rfl (by simp; omega) (fun i hi => by
    have hi := List.mem_range.mp hi
    have e1 : atD (r.map .int) (1 + (i : Int) - 1) = some (.int (ix r i)) := atD_ix (by omega) (by omega)
    have e2 : atD (r.map .int) (1 + (i : Int)) = some (.int (ix r (i + 1))) := atD_ix (by omega) (by omega)
    rw [lcTurn_eq]
    simp -implicitDefEqProofs [up, e1, e2]), fm_filter]
  rw [fallsL, List.map_map]
  rfl
theorem s9 {r : List Int} (h : r.length ≤ 1000) : den cfg prog (n + 1) 9 [T r] w = .ok (.n ((fallsL r).map .int)) w := by
  rw [den_s (fd := ⟨1, 2, bfalls_told⟩) rfl rfl (by decide)]
  simp -implicitDefEqProofs [bfalls_told, rng_2 big1 (big_len h)]
  rw [rng_up (m := r.length - 1) (by omega), falls_lc h]
  simp -implicitDefEqProofs
theorem s10 {r : List Int} (h : r.length ≤ 1000) (hr : isRow (T r) = true) : den cfg prog (n + 6) 10 [T r] w = .ok (.v (T (fallsL r))) w := by
  rw [den_s (fd := ⟨1, 1, bfalls_of⟩) rfl rfl (by decide)]
  simp -implicitDefEqProofs [bfalls_of, s5t (plT h) hr, s9 h, fold_T]
def isCode : D → Bool
  | .tup ds => decide ((1 : Int) ≤ (ds.length : Int)) && decide ((ds.length : Int) ≤ 8) && (List.range ds.length).all fun i => btw (ds.getD i .non) 0 ((ds.length : Int) - 1 - i)
  | _ => false
theorem getD_pl {ds : List D} (h : ∀ d ∈ ds, pl d = true) (i : Nat) : pl (ds.getD i .non) = true := by
  rw [List.getD_eq_getElem?_getD]
  cases q : ds[i]? with
  | none => rfl
  | some d => exact h d (List.mem_of_getElem? q)
theorem s13 {d : D} (h : plA d = true) : den cfg prog (n + 3) 13 [d] w = .ok (.v (.bl (isCode d))) w := by
  rw [den_s (fd := ⟨1, 3, bis_code⟩) rfl rfl (by decide)]
  cases d <;> first | (cases h; done) | (simp -implicitDefEqProofs [bis_code, isaT, isCode]; done) | skip
  rename_i ds
  simp only [plA, Bool.and_eq_true, List.all_eq_true, decide_eq_true_eq] at h
  by_cases h1 : (1 : Int) ≤ (ds.length : Int)
  · by_cases h8 : (ds.length : Int) ≤ 8
    · simp -implicitDefEqProofs [bis_code, isaT, h1, h8]
      rw [enumD_gen, lcR_map (g := fun i : Nat => .bl (btw (ds.getD i .non) 0 ((ds.length : Int) - 1 - i))) rfl (by simp; omega) (fun i hi => by
        rw [lcTurn_eq]
        simp -implicitDefEqProofs [-List.getD_eq_getElem?_getD, s1 (getD_pl h.1 i)])]
      simp -implicitDefEqProofs [-List.getD_eq_getElem?_getD, all_n, isCode, h1, h8]
    · simp -implicitDefEqProofs [bis_code, isaT, h1, h8, isCode]
  · simp -implicitDefEqProofs [bis_code, isaT, h1, isCode]
theorem valid_btw : ∀ (c : List Int), valid c = (List.range c.length).all fun i => btw ((c.map D.int).getD i .non) 0 ((c.length : Int) - 1 - i)
  | [] => rfl
  | x :: c => by
    rw [List.length_cons, List.range_succ_eq_map, List.all_cons, List.all_map]
    unfold valid
    rw [valid_btw c]
    congr 1
    · show _ = (decide (0 ≤ x) && decide (x ≤ ((c.length + 1 : Nat) : Int) - 1 - (0 : Nat)))
      congr 1
      exact decide_eq_decide.mpr (by omega)
    · congr 1
      funext i
      show btw ((c.map D.int).getD i .non) 0 ((c.length : Int) - 1 - i) = btw ((c.map D.int).getD i .non) 0 (((c.length + 1 : Nat) : Int) - 1 - ((i + 1 : Nat) : Int))
      congr 1
      omega
theorem isCode_T {c : List Int} (h1 : 1 ≤ c.length) (h8 : c.length ≤ 8) : isCode (T c) = valid c := by
  unfold isCode T
  rw [valid_btw]
  simp only [List.length_map]
  rw [decide_eq_true (by omega), decide_eq_true (by omega)]
  rfl
theorem isCode_len {c : List Int} (h : isCode (T c) = true) : 1 ≤ c.length ∧ c.length ≤ 8 ∧ valid c = true := by
  have h' := h
  unfold isCode T at h
  simp only [List.length_map, Bool.and_eq_true, decide_eq_true_eq] at h
  have h1 : 1 ≤ c.length := by omega
  have h8 : c.length ≤ 8 := by omega
  rw [isCode_T h1 h8] at h'
  exact ⟨h1, h8, h'⟩
theorem erase_map {α β : Type} (f : α → β) (l : List α) (i : Nat) : (l.map f).eraseIdx i = (l.eraseIdx i).map f := by
  induction l generalizing i with
  | nil => rfl
  | cons x l ih => cases i with
    | zero => rfl
    | succ i => rw [List.map_cons, List.eraseIdx_cons_succ, List.eraseIdx_cons_succ, ih]; rfl
theorem appp_at {a : Sl} {b : Sl} {lft fnd : List Int} {i : Nat} (hi' : i < lft.length) (hl : lft.length ≤ 1000) (hf : fnd.length ≤ 1000) : apppR 3 2 [a, b, .own (lft.map D.int), .own (fnd.map D.int)] (fnd.map D.int) (lft.map D.int) (.v (.int i)) = some [a, b, .own ((lft.eraseIdx i).map .int), .own ((fnd ++ [lft[i]]).map .int)] := by
  unfold apppR
  have hs := sizeLine_of (n := lft.length) (by omega)
  have hs2 := sizeLine_of (n := fnd.length + 1) (by omega)
  simp only [List.length_map]
  rw [if_neg (by omega), ixN_nat rfl hi']
  simp only [Option.bind_some, List.getElem?_map, List.getElem?_eq_getElem hi', Option.map_some]
  rw [if_pos (by omega), erase_map, List.map_append]
  rfl
theorem rng_one {c : List Int} (h : c.length ≤ 1000) : rngI [.v (.int 1), .v (.int ((c.length : Int) + 1))] = some ((oneTo c.length).map .int) := by
  rw [rng_2 big1 (big62_of (by omega) (by omega)), rng_up (m := c.length) (by omega), oneTo, List.map_map]
  rfl
theorem pop_loop {a : D} {c : List Int} (hl : c.length ≤ 1000) (v : valid c = true) : ∃ x y, forL (exSs cfg (den cfg prog n) (.cons (.appp 3 2 (.x 1)) .nil)) (.nm 1) (c.map .int) [.v a, .no, .own ((oneTo c.length).map .int), .own []] w = .ok ([.v a, x, y, .own ((fromL c).map .int)], .nx) w := by
  obtain ⟨ρ', w', e1, rfl, g, lft, fnd, x, hg, _, _, _, _, hp, rfl⟩ := forL_inv (p := .nm 1) (body := exSs cfg (den cfg prog n) (.cons (.appp 3 2 (.x 1)) .nil))
    (fun l ρ w' => w' = w ∧ ∃ (g lft fnd : List Int) (x : Sl), l = g.map .int ∧ valid g = true ∧ lft.length = g.length ∧ g.length ≤ 1000 ∧ fnd.length + g.length ≤ 1000 ∧ fnd ++ pops lft g = fromL c ∧ ρ = [.v a, x, .own (lft.map .int), .own (fnd.map .int)]) (by
      rintro d r ρ w' ⟨rfl, g, lft, fnd, x, hg, hv, hlen, h1, h2, hp, rfl⟩
      cases g with
      | nil => cases hg
      | cons y g =>
        obtain ⟨rfl, rfl⟩ : d = .int y ∧ r = g.map .int := by simpa using hg
        have hv' := hv
        unfold valid at hv
        simp only [Bool.and_eq_true, decide_eq_true_eq] at hv
        obtain ⟨i, rfl⟩ := Int.eq_ofNat_of_zero_le hv.1.1
        rw [List.length_cons] at hlen h1 h2
        have hi : i < lft.length := by omega
        refine ⟨_, [.v a, .v (.int i), .own ((lft.eraseIdx i).map .int), .own ((fnd ++ [lft[i]]).map .int)], w', rfl, .inl ?_, rfl, g, lft.eraseIdx i, fnd ++ [lft[i]], _, rfl, hv.2, ?_, by omega, by rw [List.length_append, List.length_singleton]; omega, ?_, rfl⟩
        · simp -implicitDefEqProofs [appp_at (a := .v a) (b := .v (.int i)) (fnd := fnd) hi (by omega) (by omega)]
        · rw [erase_len hi]; omega
        · rw [← hp, List.append_assoc]
          show fnd ++ ([lft[i]] ++ pops (lft.eraseIdx i) g) = fnd ++ (lft.getD ((i : Int)).toNat 0 :: pops (lft.eraseIdx ((i : Int)).toNat) g)
          rw [Int.toNat_natCast, getD_of hi]
          rfl) (c.map .int) [.v a, .no, .own ((oneTo c.length).map .int), .own []] w ⟨rfl, c, oneTo c.length, [], .no, rfl, v, oneTo_len _, hl, by simpa using hl, rfl, rfl⟩
  have hg0 : g = [] := by
    cases g with
    | nil => rfl
    | cons y g => cases hg
  subst hg0
  refine ⟨x, .own (lft.map .int), ?_⟩
  rw [e1, ← hp]
  show _ = Res.ok ([_, _, _, Sl.own ((fnd ++ []).map D.int)], Fl.nx) _
  rw [List.append_nil]
theorem s14 {c : List Int} (hl : c.length ≤ 1000) (v : valid c = true) {d : D} (hd : d = T c ∨ d = L c) : den cfg prog (n + 1) 14 [d] w = .ok (.v (T (fromL c))) w := by
  rw [den_s (fd := ⟨1, 4, brow_from⟩) rfl rfl (by decide)]
  have hs : decide ((oneTo c.length).length ≤ sizeLine) = true := decide_eq_true (sizeLine_of (by rw [oneTo_len]; omega))
  obtain ⟨x, y, e⟩ := pop_loop (n := n) (w := w) (a := d) hl v
  rcases hd with rfl | rfl
  · simp -implicitDefEqProofs [brow_from, frzE, rng_one hl, hs, lstR, sizeLine_of, e, fold_T]
  · simp -implicitDefEqProofs [brow_from, frzE, rng_one hl, hs, lstR, sizeLine_of, e, fold_T]
theorem s33 {c : List Int} (hl : c.length ≤ 1000) (v : valid c = true) : den cfg prog (n + 1) 33 [T c] w = .ok (.v (T (fromL c))) w := by
  rw [den_s (fd := ⟨1, 4, b_law_of_code⟩) rfl rfl (by decide)]
  have hs : decide ((oneTo c.length).length ≤ sizeLine) = true := decide_eq_true (sizeLine_of (by rw [oneTo_len]; omega))
  obtain ⟨x, y, e⟩ := pop_loop (n := n) (w := w) (a := T c) hl v
  simp -implicitDefEqProofs [b_law_of_code, frzE, rng_one hl, hs, lstR, sizeLine_of, e, fold_T]
theorem s15 {c : List Int} (h : isCode (T c) = true) : den cfg prog (n + 4) 15 [T c] w = .ok (.v (T (fromL c))) w := by
  obtain ⟨h1, h8, v⟩ := isCode_len h
  rw [den_s (fd := ⟨1, 1, brow_of_code⟩) rfl rfl (by decide)]
  simp -implicitDefEqProofs [brow_of_code, s13 (plT (r := c) (by omega)), h, s14 (n := n + 2) (c := c) (by omega) v (.inl rfl)]
theorem s15f {d : D} (h : plA d = true) (hc : isCode d = false) : den cfg prog (n + 4) 15 [d] w = .exc ⟨3, []⟩ w := by
  rw [den_s (fd := ⟨1, 1, brow_of_code⟩) rfl rfl (by decide)]
  simp -implicitDefEqProofs [brow_of_code, s13 h, hc]
end K03
set_option Elab.async false
set_option linter.all false
set_option maxRecDepth 100000
set_option maxHeartbeats 1000000
namespace K03
open PySem VM VM.R
variable {n : Nat} {w : Dw}
theorem num_loop {r c : List Int} (hl : r.length = c.length) (h8 : c.length ≤ 1000) : ∃ x y, forL (exSs cfg (den cfg prog n) (.cons (.set (.nm 1) (.bin .add (.bin .mul (.x 1) (.bin .sub (.bi .len (.cons false (.x 0) .nil)) (.x 2))) (.x 3))) .nil)) (.tp [2, 3]) (enumI 0 c) [.v (T r), .v (.int 0), .no, .no] w = .ok ([.v (T r), .v (.int (numR 0 c)), x, y], .nx) w := by
  obtain ⟨ρ', w', e1, rfl, p, g, a, x, y, hg, _, hp, rfl⟩ := forL_inv (p := .tp [2, 3]) (body := exSs cfg (den cfg prog n) (.cons (.set (.nm 1) (.bin .add (.bin .mul (.x 1) (.bin .sub (.bi .len (.cons false (.x 0) .nil)) (.x 2))) (.x 3))) .nil))
    (fun l ρ w' => w' = w ∧ ∃ (p : Nat) (g : List Int) (a : Int) (x y : Sl), l = enumI p g ∧ p + g.length = r.length ∧ numR a g = numR 0 c ∧ ρ = [.v (T r), .v (.int a), x, y]) (by
      rintro d l ρ w' ⟨rfl, p, g, a, x, y, hg, hlen, hp, rfl⟩
      cases g with
      | nil => cases hg
      | cons z g =>
        obtain ⟨rfl, rfl⟩ : d = .tup [.int p, .int z] ∧ l = enumI (p + 1) g := by
          injection hg with h1 h2
          exact ⟨h1, h2⟩
        rw [List.length_cons] at hlen
        have hs : small64 ((r.length : Int) - p) = true := small64_of (by omega) (by omega)
        refine ⟨_, [.v (T r), .v (.int (a * ((g.length : Int) + 1) + z)), .v (.int p), .v (.int z)], w', rfl, .inl ?_, rfl, p + 1, g, _, _, _, rfl, by omega, hp, rfl⟩
        simp -implicitDefEqProofs [opB_mi (i := a) (j := (r.length : Int) - p) (by rw [hs, Bool.or_true])]
        rw [show (r.length : Int) - p = (g.length : Int) + 1 by omega]) (enumI 0 c) [.v (T r), .v (.int 0), .no, .no] w ⟨rfl, 0, c, 0, .no, .no, rfl, by omega, rfl, rfl⟩
  cases g with
  | nil =>
    refine ⟨x, y, ?_⟩
    rw [e1, ← hp]
    rfl
  | cons z g => cases hg
theorem s16 {r : List Int} (h : r.length ≤ 1000) (hr : isRow (T r) = true) : den cfg prog (n + 6) 16 [T r] w = .ok (.v (.int (numR 0 (codeL r)))) w := by
  rw [den_s (fd := ⟨1, 4, brow_number⟩) rfl rfl (by decide)]
  obtain ⟨x, y, e⟩ := num_loop (n := n + 5) (w := w) (r := r) (c := codeL r) (codeL_len r).symm (by rw [codeL_len]; exact h)
  simp -implicitDefEqProofs [brow_number, s5t (plT h) hr, s11 h, enumD_I, e]
theorem s16f {d : D} (h : plA d = true) (hr : isRow d = false) : den cfg prog (n + 6) 16 [d] w = .exc ⟨2, []⟩ w := by
  rw [den_s (fd := ⟨1, 4, brow_number⟩) rfl rfl (by decide)]
  simp -implicitDefEqProofs [brow_number, s5f h hr]
theorem s34 {c : List Int} (h : c.length ≤ 1000) : den cfg prog (n + 1) 34 [T c] w = .ok (.v (.int (numR 0 c))) w := by
  rw [den_s (fd := ⟨1, 4, b_law_number⟩) rfl rfl (by decide)]
  obtain ⟨x, y, e⟩ := num_loop (n := n) (w := w) (r := c) (c := c) rfl h
  simp -implicitDefEqProofs [b_law_number, enumD_I, e]
theorem rng_a {S : Nat} (p : Nat) (hp : p ≤ 3) (h : S ≤ 1000) : rngI [.v (.int p), .v (.int ((S : Int) + 1))] = some (upL p (S + 1 - p)) := by
  rw [rng_2 (big62_of (by omega) (by omega)) (big62_of (by omega) (by omega)), ← rngL_up]
  congr 2
  omega
theorem fac_loop {S : Nat} (h1 : 1 ≤ S) (h : S ≤ 1000) {bd : Ss} (hb : bd = .cons (.aug 1 .mul (.x 2)) .nil ∨ bd = .cons (.set (.nm 1) (.bin .mul (.x 1) (.x 2))) .nil) : ∃ x, forL (exSs cfg (den cfg prog n) bd) (.nm 2) (upL 2 (S - 1)) [.v (.int S), .v (.int 1), .no] w = .ok ([.v (.int S), .v (.int (fac S)), x], .nx) w := by
  obtain ⟨ρ', w', e1, rfl, p, m, x, hg, hp, hp1, rfl⟩ := forL_inv (p := .nm 2) (body := exSs cfg (den cfg prog n) bd)
    (fun l ρ w' => w' = w ∧ ∃ (p m : Nat) (x : Sl), l = upL p m ∧ p + m = S + 1 ∧ 1 ≤ p ∧ ρ = [.v (.int S), .v (.int (fac (p - 1))), x]) (by
      rintro d l ρ w' ⟨rfl, p, m, x, hg, hm, hp, rfl⟩
      cases m with
      | zero => cases hg
      | succ m =>
        obtain ⟨rfl, rfl⟩ : d = .int p ∧ l = upL (p + 1) m := by
          injection hg with h1 h2
          exact ⟨h1, h2⟩
        have hs : small64 (p : Int) = true := small64_of (by omega) (by omega)
        have ef : fac (p - 1) * (p : Int) = fac (p + 1 - 1) := by
          obtain ⟨q, rfl⟩ : ∃ q, p = q + 1 := ⟨p - 1, by omega⟩
          rw [Nat.add_sub_cancel, Nat.add_sub_cancel, Int.mul_comm]
          rfl
        refine ⟨_, [.v (.int S), .v (.int (fac (p + 1 - 1))), .v (.int p)], w', rfl, .inl ?_, rfl, p + 1, m, _, rfl, by omega, by omega, rfl⟩
        rw [← ef]
        rcases hb with rfl | rfl
        · simp -implicitDefEqProofs [augI_mul (x := fac (p - 1)) (y := (p : Int)) (by rw [hs, Bool.or_true])]
        · simp -implicitDefEqProofs [opB_mi (i := fac (p - 1)) (j := (p : Int)) (by rw [hs, Bool.or_true])]) (upL 2 (S - 1)) [.v (.int S), .v (.int 1), .no] w ⟨rfl, 2, S - 1, .no, rfl, by omega, by omega, rfl⟩
  cases m with
  | zero =>
    refine ⟨x, ?_⟩
    rw [e1, show p - 1 = S by omega]
  | succ m => cases hg
theorem s17 {S : Nat} (h1 : 1 ≤ S) (h : S ≤ 1000) : den cfg prog (n + 1) 17 [.int S] w = .ok (.v (.int (fac S))) w := by
  rw [den_s (fd := ⟨1, 3, bfactorial_of⟩) rfl rfl (by decide)]
  obtain ⟨x, e⟩ := fac_loop (n := n) (w := w) h1 h (.inl rfl)
  have hr := rng_a (S := S) 2 (by omega) h
  rw [show S + 1 - 2 = S - 1 by omega] at hr
  simp -implicitDefEqProofs only [Int.cast_ofNat_Int] at hr
  simp -implicitDefEqProofs [bfactorial_of, hr, e]
theorem s35 {S : Nat} (h1 : 1 ≤ S) (h : S ≤ 1000) : den cfg prog (n + 1) 35 [.int S] w = .ok (.v (.int (fac S))) w := by
  rw [den_s (fd := ⟨1, 3, b_law_times⟩) rfl rfl (by decide)]
  obtain ⟨x, e⟩ := fac_loop (n := n) (w := w) h1 h (.inr rfl)
  have hr := rng_a (S := S) 2 (by omega) h
  rw [show S + 1 - 2 = S - 1 by omega] at hr
  simp -implicitDefEqProofs only [Int.cast_ofNat_Int] at hr
  simp -implicitDefEqProofs [b_law_times, hr, e]
theorem s6t {d : D} (h : pl d = true) (hb : btw d 1 8 = true) : den cfg prog (n + 4) 6 [d] w = .ok (.v .non) w := by
  rw [den_s (fd := ⟨1, 1, bneed_seats⟩) rfl rfl (by decide)]
  simp -implicitDefEqProofs [bneed_seats, s2t h hb]
theorem s6f {d : D} (h : pl d = true) (hb : btw d 1 8 = false) : den cfg prog (n + 4) 6 [d] w = .exc ⟨1, [.str "seats"]⟩ w := by
  rw [den_s (fd := ⟨1, 1, bneed_seats⟩) rfl rfl (by decide)]
  simp -implicitDefEqProofs [bneed_seats, s2f h hb]
theorem dig_loop {S : Nat} {k : Int} (h1 : 1 ≤ S) (h : S ≤ 1000) : ∃ x, forL (exSs cfg (den cfg prog n) (.cons (.app 3 (.bin .mod (.x 4) (.x 2))) (.cons (.aug 4 .fdiv (.x 2)) .nil))) (.nm 2) (upL 1 S) [.v (.int S), .v (.int k), .no, .own [], .v (.int k)] w = .ok ([.v (.int S), .v (.int k), x, .own ((dg 1 S k).map .int), .v (.int (quo 1 S k))], .nx) w := by
  obtain ⟨ρ', w', e1, rfl, p, m, x, hg, hp, hp1, rfl⟩ := forL_inv (p := .nm 2) (body := exSs cfg (den cfg prog n) (.cons (.app 3 (.bin .mod (.x 4) (.x 2))) (.cons (.aug 4 .fdiv (.x 2)) .nil)))
    (fun l ρ w' => w' = w ∧ ∃ (p m : Nat) (x : Sl), l = upL (1 + p) m ∧ p + m = S ∧ 0 ≤ p ∧ ρ = [.v (.int S), .v (.int k), x, .own ((dg 1 p k).map .int), .v (.int (quo 1 p k))]) (by
      rintro d l ρ w' ⟨rfl, p, m, x, hg, hm, hp, rfl⟩
      cases m with
      | zero => cases hg
      | succ m =>
        obtain ⟨rfl, rfl⟩ : d = .int ((1 + p : Nat) : Int) ∧ l = upL (1 + p + 1) m := by
          injection hg with h1 h2
          exact ⟨h1, h2⟩
        obtain ⟨q, hq⟩ : ∃ q : Int, q = ((1 + p : Nat) : Int) := ⟨_, rfl⟩
        refine ⟨_, [.v (.int S), .v (.int k), .v (.int ((1 + p : Nat) : Int)), .own ((dg 1 (p + 1) k).map .int), .v (.int (quo 1 (p + 1) k))], w', rfl, .inl ?_, rfl, p + 1, m, _, by rw [Nat.add_assoc], by omega, by omega, rfl⟩
        rw [dg_snoc, quo_snoc, ← hq]
        have ed : (quo 1 p k) / q = (quo 1 p k).fdiv q := (Int.fdiv_eq_ediv_of_nonneg _ (by omega)).symm
        have hsz : decide ((dg 1 p k).length + 1 ≤ sizeLine) = true := decide_eq_true (sizeLine_of (by rw [dg_len]; omega))
        have hap : ∀ z : Int, appR 3 [.v (.int S), .v (.int k), .v (.int q), .own ((dg 1 p k).map .int), .v (.int (quo 1 p k))] ((dg 1 p k).map .int) (.v (.int z)) = some [.v (.int S), .v (.int k), .v (.int q), .own ((dg 1 p k ++ [z]).map .int), .v (.int (quo 1 p k))] := fun z => by
          rw [List.map_append]
          unfold appR
          simp only [List.length_map]
          exact if_pos (of_decide_eq_true hsz)
        simp -implicitDefEqProofs [opB_mo (i := quo 1 p k) (j := q) (by omega), augI_fdiv (x := quo 1 p k) (y := q) (by omega) (by omega), hap, ed]) (upL 1 S) [.v (.int S), .v (.int k), .no, .own [], .v (.int k)] w ⟨rfl, 0, S, .no, rfl, by omega, by omega, rfl⟩
  cases m with
  | zero =>
    refine ⟨x, ?_⟩
    rw [e1, show p = S by omega]
  | succ m => cases hg
theorem s18 {S : Nat} {k : Int} (h1 : 1 ≤ S) (h : S ≤ 8) (k0 : 0 ≤ k) (k1 : k < fac S) : den cfg prog (n + 6) 18 [.int S, .int k] w = .ok (.v (T (fromL (codeAt S k)))) w := by
  rw [den_s (fd := ⟨2, 5, brow_at⟩) rfl rfl (by decide)]
  obtain ⟨x, e⟩ := dig_loop (n := n + 5) (w := w) (k := k) h1 (by omega)
  have hr := rng_a (S := S) 1 (by omega) (by omega)
  rw [show S + 1 - 1 = S by omega] at hr
  simp -implicitDefEqProofs only [Int.cast_ofNat_Int] at hr
  have b1 : btw (.int S) 1 8 = true := by show (decide _ && decide _) = true; rw [decide_eq_true (by omega), decide_eq_true (by omega)]; rfl
  have b2 : btw (.int k) 0 (fac S - 1) = true := by show (decide _ && decide _) = true; rw [decide_eq_true (by omega), decide_eq_true (by omega)]; rfl
  have e14 := s14 (n := n + 4) (w := w) (c := codeAt S k) (by rw [codeAt_len]; omega) (dg_valid S k) (d := .lst ((dg 1 S k).reverse.map .int)) (.inr rfl)
  rw [List.map_reverse] at e14
  have hrv : rvR (RV.m 3 ((dg 1 S k).map D.int)) = some (.n ((dg 1 S k).map D.int).reverse) := rfl
  simp -implicitDefEqProofs [brow_at, s6t (d := .int S) rfl b1, s17 h1 (by omega : S ≤ 1000), s2t (d := .int k) rfl b2, frzE, lstR, sizeLine_of, hr, e, e14, hrv]
theorem s18s {d e : D} (h : pl d = true) (hb : btw d 1 8 = false) : den cfg prog (n + 6) 18 [d, e] w = .exc ⟨1, [.str "seats"]⟩ w := by
  rw [den_s (fd := ⟨2, 5, brow_at⟩) rfl rfl (by decide)]
  simp -implicitDefEqProofs [brow_at, s6f h hb]
theorem s18n {S : Nat} {e : D} (h1 : 1 ≤ S) (h : S ≤ 8) (hp : pl e = true) (hb : btw e 0 (fac S - 1) = false) : den cfg prog (n + 6) 18 [.int S, e] w = .exc ⟨1, [.str "number"]⟩ w := by
  rw [den_s (fd := ⟨2, 5, brow_at⟩) rfl rfl (by decide)]
  have b1 : btw (.int S) 1 8 = true := by show (decide _ && decide _) = true; rw [decide_eq_true (by omega), decide_eq_true (by omega)]; rfl
  simp -implicitDefEqProofs [brow_at, s6t (d := .int S) rfl b1, s17 h1 (by omega : S ≤ 1000), s2f hp hb]
theorem s24 {a b : Bool} : den cfg prog (n + 1) 24 [.bl a, .bl b] w = .ok (.v (.bl (decide (a = b)))) w := by
  rw [den_s (fd := ⟨2, 2, b_law_says⟩) rfl rfl (by decide)]
  cases a <;> cases b <;> simp -implicitDefEqProofs [b_law_says]
theorem s25 {d : D} (h : pl d = true) : den cfg prog (n + 1) 25 [d] w = .ok (.v (.bl (isI d))) w := by
  rw [den_s (fd := ⟨1, 1, b_law_is_number⟩) rfl rfl (by decide)]
  cases d <;> first | (cases h; done) | simp -implicitDefEqProofs [b_law_is_number, isaT, isI]
theorem eqR_ones {α : Type} (l : List α) : eqR (.n (l.map fun _ => D.int 1)) (.n []) = some (decide (l = [])) := by
  rw [eqR_lst (a := l.map fun _ => 1) (b := []) (by rw [look_n, List.map_map]; rfl) rfl]
  exact congrArg some (decide_eq_decide.mpr List.map_eq_nil_iff)
theorem non_lc {ds : List D} {ρ : En} (h : ∀ d ∈ ds, pl d = true) (hl : ds.length ≤ 1000) (hs : ∀ d, (ρ.set 1 (.v d))[1]? = some (.v d)) :
    lcR cfg (den cfg prog (n + 1)) (.k (.int 1)) (.nm 1) (.so (.not (.call 25 (.cons false (.x 1) .nil)))) ρ ds w = .ok (.n ((ds.filter fun d => !isI d).map fun _ => D.int 1)) w := by
  rw [lcR_pure (e := id) (l := ds) (g := fun d => if (!isI d) = true then some (.int 1) else none) (by simp) (by omega) (fun d hd => by
    rw [lcTurn_eq]
    simp -implicitDefEqProofs [hs, s25 (h d hd)]), fm_filter]
theorem ints_I : ∀ {ds : List D}, (ds.filter fun d => !isI d) = [] → ∃ c : List Int, ds = c.map .int
  | [], _ => ⟨[], rfl⟩
  | d :: ds, h => by
    cases q : isI d with
    | false => rw [List.filter_cons_of_pos (by rw [q]; rfl)] at h; cases h
    | true =>
      rw [List.filter_cons_of_neg (by rw [q]; decide)] at h
      obtain ⟨c, rfl⟩ := ints_I h
      cases d <;> first | (cases q; done) | skip
      rename_i i
      exact ⟨i :: c, rfl⟩
theorem ints_J {c : List Int} : ((c.map D.int).filter fun d => !isI d) = [] := by
  rw [List.filter_eq_nil_iff]
  intro d hd
  obtain ⟨i, _, rfl⟩ := List.mem_map.mp hd
  show ¬(!true) = true
  decide
/-- a row, told by sorting: some answer -/
theorem s28 {d : D} (h : plA d = true) : ∃ b, den cfg prog (n + 2) 28 [d] w = .ok (.v (.bl b)) w := by
  rw [den_s (fd := ⟨1, 2, b_law_is_row⟩) rfl rfl (by decide)]
  cases d <;> first | (cases h; done) | (refine ⟨false, ?_⟩; simp -implicitDefEqProofs [b_law_is_row, isaT]; done) | skip
  rename_i ds
  simp only [plA, Bool.and_eq_true, List.all_eq_true, decide_eq_true_eq] at h
  by_cases h1 : (1 : Int) ≤ (ds.length : Int)
  · by_cases h8 : (ds.length : Int) ≤ 8
    · by_cases hn : (ds.filter fun d => !isI d) = []
      · obtain ⟨c, rfl⟩ := ints_I hn
        have hs : bi .sorted [.v (T c)] = some (.n ((c.mergeSort fun x y => decide (x ≤ y)).map .int)) := sorted_of (k := true) rfl (intsD_ints _)
        rw [List.length_map] at h1 h8
        have hr := rng_one (c := c) (by omega)
        have hq : decide ((oneTo c.length).length ≤ sizeLine) = true := decide_eq_true (sizeLine_of (by rw [oneTo_len]; omega))
        have hE : eqR (.n ((c.mergeSort fun x y => decide (x ≤ y)).map .int)) (.n ((oneTo c.length).map .int)) = some (decide ((c.mergeSort fun x y => decide (x ≤ y)) = oneTo c.length)) := eqR_lst rfl rfl
        refine ⟨decide ((c.mergeSort fun x y => decide (x ≤ y)) = oneTo c.length), ?_⟩
        have hl : (c.map D.int).length ≤ 1000 := by rw [List.length_map]; omega
        have hnl := non_lc (n := n) (w := w) (ρ := [.v (T c), .no]) h.1 hl (fun _ => rfl)
        rw [ints_J] at hnl
        have hE2 := eqR_ones (α := D) []
        simp only [List.map_nil] at hE2 hnl
        simp -implicitDefEqProofs [b_law_is_row, h1, h8, fold_T, hnl, lstR, sizeLine_of, hE2, hs, hr, hq, hE]
      · refine ⟨false, ?_⟩
        have hnl := non_lc (n := n) (w := w) (ρ := [.v (.tup ds), .no]) h.1 h.2 (fun _ => rfl)
        simp -implicitDefEqProofs [b_law_is_row, isaT, h1, h8, hnl, lstR, sizeLine_of, eqR_ones, hn]
    · exact ⟨false, by simp -implicitDefEqProofs [b_law_is_row, isaT, h1, h8]⟩
  · exact ⟨false, by simp -implicitDefEqProofs [b_law_is_row, isaT, h1]⟩
def badC (c : List Int) : List Nat := (List.range c.length).filter fun i : Nat => !(decide (0 ≤ ix c i) && decide (ix c i < (c.length : Int) - i))
theorem badC_eq {c : List Int} : decide (badC c = []) = valid c := by
  rw [valid_btw]
  unfold badC
  rw [Bool.eq_iff_iff, decide_eq_true_eq, List.filter_eq_nil_iff, List.all_eq_true]
  refine forall_congr' fun i => forall_congr' fun hi => ?_
  have hi' : i < c.length := List.mem_range.mp hi
  have e : (c.map D.int).getD i .non = .int (ix c i) := by
    unfold ix
    rw [List.getD_eq_getElem?_getD, List.getElem?_map, List.getD_eq_getElem?_getD, List.getElem?_eq_getElem hi']
    rfl
  rw [e]
  show _ ↔ (decide (0 ≤ ix c i) && decide (ix c i ≤ (c.length : Int) - 1 - i)) = true
  simp only [Bool.not_eq_true', Bool.not_eq_false, Bool.and_eq_true, decide_eq_true_eq]
  omega
theorem s32 {d : D} (h : plA d = true) : den cfg prog (n + 2) 32 [d] w = .ok (.v (.bl (isCode d))) w := by
  rw [den_s (fd := ⟨1, 3, b_law_is_code⟩) rfl rfl (by decide)]
  cases d <;> first | (cases h; done) | (simp -implicitDefEqProofs [b_law_is_code, isaT, isCode]; done) | skip
  rename_i ds
  simp only [plA, Bool.and_eq_true, List.all_eq_true, decide_eq_true_eq] at h
  by_cases h1 : (1 : Int) ≤ (ds.length : Int)
  · by_cases h8 : (ds.length : Int) ≤ 8
    · by_cases hn : (ds.filter fun d => !isI d) = []
      · obtain ⟨c, rfl⟩ := ints_I hn
        rw [List.length_map] at h1 h8
        have hl : (c.map D.int).length ≤ 1000 := by rw [List.length_map]; omega
        have hnl := non_lc (n := n) (w := w) (ρ := [.v (T c), .no, .no]) h.1 hl (fun _ => rfl)
        rw [ints_J] at hnl
        have hE2 := eqR_ones (α := D) []
        simp only [List.map_nil] at hE2 hnl
        rw [fold_T, isCode_T (by omega) (by omega), ← badC_eq]
        simp -implicitDefEqProofs [b_law_is_code, h1, h8, fold_T, hnl, lstR, sizeLine_of, hE2]
        rw [enumD_ints, lcR_pure (g := fun i : Nat => if (!(decide (0 ≤ ix c i) && decide (ix c i < (c.length : Int) - i))) = true then some (.int 1) else none) rfl (by simp; omega) (fun i hi => by
          rw [lcTurn_eq]
          by_cases q : 0 ≤ ix c i <;> by_cases q2 : ix c i < (c.length : Int) - i <;> simp -implicitDefEqProofs [q, q2]), fm_filter]
        have hE3 := eqR_ones (badC c)
        rw [show (List.range c.length).filter (fun i : Nat => !(decide (0 ≤ ix c i) && decide (ix c i < (c.length : Int) - i))) = badC c from rfl]
        simp -implicitDefEqProofs [hE3]
      · have hnl := non_lc (n := n) (w := w) (ρ := [.v (.tup ds), .no, .no]) h.1 h.2 (fun _ => rfl)
        have hf : isCode (.tup ds) = false := by
          cases q : isCode (.tup ds) with
          | false => rfl
          | true =>
            exfalso
            apply hn
            rw [List.filter_eq_nil_iff]
            intro d hd
            unfold isCode at q
            simp only [Bool.and_eq_true, List.all_eq_true, List.mem_range] at q
            obtain ⟨i, hi, rfl⟩ := List.getElem_of_mem hd
            have := q.2 i hi
            rw [List.getD_eq_getElem?_getD, List.getElem?_eq_getElem hi] at this
            revert this
            show btw (ds[i]) _ _ = true → _
            cases ds[i] <;> intro z <;> first | (cases z; done) | (show ¬(!true) = true; decide)
        rw [hf]
        simp -implicitDefEqProofs [b_law_is_code, isaT, h1, h8, hnl, lstR, sizeLine_of, eqR_ones, hn]
    · simp -implicitDefEqProofs [b_law_is_code, isaT, h1, h8, isCode]
  · simp -implicitDefEqProofs [b_law_is_code, isaT, h1, isCode]
end K03
set_option Elab.async false
set_option linter.all false
set_option maxRecDepth 100000
set_option maxHeartbeats 1000000
namespace K03
open PySem VM VM.R
variable {n : Nat} {w : Dw}
/-- the draws' state: ints that are not below 0 -/
structure DOk (w : Dw) : Prop where
  on : w.on = true
  lg : ∃ l : List Int, w.large = l.map .int ∧ ∀ x ∈ l, 0 ≤ x
  rs : ∃ r : Int, 0 ≤ r ∧ w.rest = .int r
  cs : ∃ c : List Int, w.cells = L c
  tn : ∃ t : Int, w.turn = .int t
@[simp] theorem get_rest {w : Dw} (h : w.on = true) : dwGet .rest w = some w.rest := by unfold dwGet; rw [if_pos h]
@[simp] theorem get_cells {w : Dw} (h : w.on = true) : dwGet .cells w = some w.cells := by unfold dwGet; rw [if_pos h]
@[simp] theorem get_turn {w : Dw} (h : w.on = true) : dwGet .turn w = some w.turn := by unfold dwGet; rw [if_pos h]
@[simp] theorem set_rest {w : Dw} {d : D} (h : w.on = true) : dwSet .rest d w = some { w with rest := d } := by unfold dwSet; rw [if_pos h]
@[simp] theorem set_turn {w : Dw} {d : D} (h : w.on = true) : dwSet .turn d w = some { w with turn := d } := by unfold dwSet; rw [if_pos h]
theorem fmod_nn {a b : Int} (hb : 0 < b) : 0 ≤ a.fmod b ∧ a.fmod b < b := ⟨Int.fmod_nonneg_of_pos a hb, Int.fmod_lt_of_pos a hb⟩
def greats : List Int := [2147483629, 2147483587, 2147483579, 2147483563]
/-- another great number -/
theorem s20 (h : DOk w) : ∃ v w', 0 ≤ v ∧ DOk w' ∧ den cfg prog (n + 1) 20 [.dr] w = .ok (.v (.int v)) w' := by
  obtain ⟨on, lg, rs, ⟨c, hc⟩, ⟨t, ht⟩⟩ := h
  obtain ⟨w1, hw1⟩ : ∃ w1 : Dw, w1 = { w with turn := .int (t + 1) } := ⟨_, rfl⟩
  have d1 : DOk w1 := by subst hw1; exact ⟨on, lg, rs, ⟨c, hc⟩, ⟨_, rfl⟩⟩
  have c1 : w1.cells = L c := by subst hw1; exact hc
  have t1 : w1.turn = .int (t + 1) := by subst hw1; rfl
  rw [den_s (fd := ⟨1, 6, b_law_mixed⟩) rfl rfl (by decide)]
  simp -implicitDefEqProofs [b_law_mixed, get_turn on, ht, set_turn on, ← hw1, get_turn d1.on, t1, lstR, sizeLine_of]
  rw [show [D.int 2147483629, D.int 2147483587, D.int 2147483579, D.int 2147483563] = greats.map .int from rfl]
  obtain ⟨ρ', w', e1, i1⟩ := forL_inv (p := .nm 1) (body := exSs cfg (den cfg prog n) (.cons (.set (.nm 4) (.bin .mod (.bin .add (.bin .mul (.x 2) (.k (.int 69621))) (.bin .fdiv (.x 1) (.k (.int 13)))) (.x 1))) (.cons (.forr (.nm 5) (.e (.dG 0 .cells)) (.cons (.set (.nm 4) (.bin .mod (.bin .add (.bin .add (.bin .mul (.x 4) (.k (.int 48271))) (.bi .int (.cons false (.x 5) .nil))) (.k (.int 3))) (.x 1))) .nil)) (.cons (.set (.nm 3) (.bin .add (.bin .mul (.x 3) (.k (.int 2147483647))) (.bin .mod (.bin .pow (.x 4) (.k (.int 5))) (.x 1)))) .nil))))
    (fun l ρ w => w = w1 ∧ (∃ g : List Int, l = g.map .int ∧ ∀ x ∈ g, x ∈ greats) ∧ ∃ x f y z, 0 ≤ f ∧ ρ = [.v .dr, x, .v (.int (t + 1)), .v (.int f), y, z]) (by
      rintro d r ρ w ⟨rfl, ⟨g, hg, hm⟩, x, f, y, z, hf, rfl⟩
      cases g with
      | nil => cases hg
      | cons p g =>
        obtain ⟨rfl, rfl⟩ : d = .int p ∧ r = g.map .int := by simpa using hg
        have hp : 2 ≤ p ∧ p ≤ 2147483647 := by
          have := hm p List.mem_cons_self
          simp only [greats, List.mem_cons, List.not_mem_nil, or_false] at this
          omega
        have hs : small64 69621 = true := small64_of (by omega) (by omega)
        have hs2 : small64 48271 = true := small64_of (by omega) (by omega)
        have hs3 : small64 2147483647 = true := small64_of (by omega) (by omega)
        obtain ⟨b0, hb0⟩ : ∃ b0, b0 = ((t + 1) * 69621 + p.fdiv 13).fmod p := ⟨_, rfl⟩
        have hb := fmod_nn (a := (t + 1) * 69621 + p.fdiv 13) (b := p) (by omega)
        rw [← hb0] at hb
        obtain ⟨ρ3, w3, e3, rfl, _, b, z2, hb1, hb2, rfl⟩ := forL_inv (p := .nm 5) (body := exSs cfg (den cfg prog n) (.cons (.set (.nm 4) (.bin .mod (.bin .add (.bin .add (.bin .mul (.x 4) (.k (.int 48271))) (.bi .int (.cons false (.x 5) .nil))) (.k (.int 3))) (.x 1))) .nil))
          (fun l ρ w' => w' = w ∧ (∃ g : List Int, l = g.map .int) ∧ ∃ b z, 0 ≤ b ∧ b < p ∧ ρ = [.v .dr, .v (.int p), .v (.int (t + 1)), .v (.int f), .v (.int b), z]) (by
            rintro d r ρ w' ⟨rfl, ⟨g, hg⟩, b, z, hb1, hb2, rfl⟩
            cases g with
            | nil => cases hg
            | cons q g =>
              obtain ⟨rfl, rfl⟩ : d = .int q ∧ r = g.map .int := by simpa using hg
              have hm := fmod_nn (a := b * 48271 + q + 3) (b := p) (by omega)
              refine ⟨_, [.v .dr, .v (.int p), .v (.int (t + 1)), .v (.int f), .v (.int ((b * 48271 + q + 3).fmod p)), .v (.int q)], w', rfl, .inl ?_, rfl, ⟨g, rfl⟩, _, _, hm.1, hm.2, rfl⟩
              simp -implicitDefEqProofs [opB_mi (i := b) (j := 48271) (by rw [hs2, Bool.or_true]), opB_mo (i := b * 48271 + q + 3) (j := p) (by omega)]) (c.map .int) [.v .dr, .v (.int p), .v (.int (t + 1)), .v (.int f), .v (.int b0), z] w ⟨rfl, ⟨c, rfl⟩, b0, z, hb.1, hb.2, rfl⟩
        have hq := fmod_nn (a := b ^ 5) (b := p) (by omega)
        refine ⟨_, [.v .dr, .v (.int p), .v (.int (t + 1)), .v (.int (f * 2147483647 + (b ^ 5).fmod p)), .v (.int b), z2], w3, rfl, .inl ?_, rfl, ⟨g, rfl, fun x hx => hm x (List.mem_cons_of_mem _ hx)⟩, _, _, _, _, ?_, rfl⟩
        · simp -implicitDefEqProofs [opB_mi (i := t + 1) (j := 69621) (by rw [hs, Bool.or_true]), opB_fi (i := p) (j := 13) (by omega) (by omega), opB_mo (i := (t + 1) * 69621 + p.fdiv 13) (j := p) (by omega), get_cells d1.on, c1, ← hb0, e3,
            opB_mi (i := f) (j := 2147483647) (by rw [hs3, Bool.or_true]), opB_pow (i := b) (j := 5) (by omega) (by omega) (by omega), opB_mo (i := b ^ 5) (j := p) (by omega)]
        · have := Int.mul_nonneg hf (show (0 : Int) ≤ 2147483647 by omega)
          omega) (greats.map .int) [.v .dr, .no, .v (.int (t + 1)), .v (.int 0), .no, .no] w1 ⟨rfl, ⟨greats, rfl, fun x hx => hx⟩, _, _, _, _, Int.le_refl _, rfl⟩
  obtain ⟨rfl, _, x, f, y, z, hf, rfl⟩ := i1
  refine ⟨f, hf, _, d1, ?_⟩
  rw [e1]
  simp -implicitDefEqProofs
/-- a number from 0 to amount - 1 -/
theorem s21 (h : DOk w) {a : Int} (ha : 0 < a) (ha2 : a < 1000000000) : ∃ (i : Nat) (w' : Dw), (i : Int) < a ∧ DOk w' ∧ den cfg prog (n + 2) 21 [.dr, .int a] w = .ok (.v (.int i)) w' := by
  -- behind the first statement, rest is not below 0
  have first : ∃ (r : Int) (w1 : Dw), 0 ≤ r ∧ DOk w1 ∧ w1.rest = .int r ∧ exS cfg (den cfg prog (n + 1)) (.ite (.cmp .eq (.dG 0 .rest) (.k (.int 0))) (.cons (.frz 0) (.cons (.dS 0 .rest (.ife (.dL 0) (.dP 0) (.call 20 (.cons false (.x 0) .nil)))) .nil)) .nil) [.v .dr, .v (.int a), .no] w = .ok ([.v .dr, .v (.int a), .no], .nx) w1 := by
    obtain ⟨r, hr, er⟩ := h.rs
    by_cases h0 : r = 0
    · subst h0
      obtain ⟨l, hl, hl2⟩ := h.lg
      have hE : eqD (.lst w.large) (.lst []) = some (decide (l = [])) := by
        rw [hl]
        exact eqR_lst (u := .v (L l)) (v := .v (L [])) rfl rfl
      cases l with
      | nil =>
        obtain ⟨v, w2, hv, d2, e2⟩ := s20 (n := n) h
        refine ⟨v, { w2 with rest := .int v }, hv, ⟨d2.on, d2.lg, ⟨v, hv, rfl⟩, d2.cs, d2.tn⟩, rfl, ?_⟩
        simp -implicitDefEqProofs [get_rest h.on, er, h.on, hE, frzE, e2, set_rest d2.on]
      | cons x l =>
        refine ⟨x, { w with large := l.map .int, rest := .int x }, hl2 x List.mem_cons_self, ⟨h.on, ⟨l, rfl, fun y hy => hl2 y (List.mem_cons_of_mem _ hy)⟩, ⟨x, hl2 x List.mem_cons_self, rfl⟩, h.cs, h.tn⟩, rfl, ?_⟩
        have ep : dPR w = .ok (.v (.int x)) { w with large := l.map .int } := by
          unfold dPR
          rw [hl]
          rfl
        simp -implicitDefEqProofs [get_rest h.on, er, h.on, hE, frzE, ep, set_rest (w := { w with large := l.map D.int }) h.on]
    · refine ⟨r, w, hr, h, er, ?_⟩
      simp -implicitDefEqProofs [get_rest h.on, er, h0]
  obtain ⟨r, w1, hr, d1, er, e1⟩ := first
  have hm := fmod_nn (a := r) (b := a) ha
  refine ⟨(r.fmod a).toNat, { w1 with rest := .int (r.fdiv a) }, by omega, ⟨d1.on, d1.lg, ⟨_, Int.fdiv_nonneg hr (by omega), rfl⟩, d1.cs, d1.tn⟩, ?_⟩
  rw [den_s (fd := ⟨2, 3, b_law_take⟩) rfl rfl (by decide)]
  have hz : ((r.fmod a).toNat : Int) = r.fmod a := by omega
  simp -implicitDefEqProofs only [b_law_take, exs_cons, List.map_cons, List.map_nil, List.cons_append, List.nil_append, show List.replicate (3 - 2) Sl.no = [Sl.no] from rfl, e1, Res.bind_ok, nxt_nx]
  simp -implicitDefEqProofs [get_rest d1.on, er, opB_mo (i := r) (j := a) (by omega), opB_fi (i := r) (j := a) (by omega) (by omega), set_rest d1.on]
  omega
/-- one of some things -/
theorem s22 (h : DOk w) {ds : List D} (h0 : ds ≠ []) (h1 : ds.length ≤ 1000) : ∃ (d : D) (w' : Dw), d ∈ ds ∧ DOk w' ∧ den cfg prog (n + 3) 22 [.dr, .lst ds] w = .ok (.v d) w' := by
  have hl : 0 < ds.length := List.length_pos_iff.mpr h0
  obtain ⟨i, w', hi, d', e⟩ := s21 (n := n) h (a := ds.length) (by omega) (by omega)
  have hi' : i < ds.length := by omega
  refine ⟨ds[i], w', List.getElem_mem hi', d', ?_⟩
  rw [den_s (fd := ⟨2, 2, b_law_pick⟩) rfl rfl (by decide)]
  simp -implicitDefEqProofs [b_law_pick, e, atD_any (ds := ds) (i := (i : Int)) (j := i) (d := ds[i]) rfl (List.getElem?_eq_getElem hi')]
end K03
set_option Elab.async false
set_option linter.all false
set_option maxRecDepth 100000
set_option maxHeartbeats 1000000
namespace K03
open PySem VM VM.R
variable {n : Nat} {w : Dw}
/-- things in a drawn sequence -/
theorem s23 (h : DOk w) {l : List Int} (hl : l.length ≤ 900) : ∃ (p : List Int) (w' : Dw), p.Perm l ∧ DOk w' ∧ den cfg prog (n + 3) 23 [.dr, L l] w = .ok (.n (p.map .int)) w' := by
  obtain ⟨ρ', w', e1, d', lft, fnd, h0, hp, rfl⟩ := whlL_inv (test := ev cfg (den cfg prog (n + 2)) (.cmp .ne (.x 2) (.lst .nil))) (body := exSs cfg (den cfg prog (n + 2)) (.cons (.appp 3 2 (.call 21 (.cons false (.x 0) (.cons false (.bi .len (.cons false (.x 2) .nil)) .nil)))) .nil))
    (fun m ρ w => DOk w ∧ ∃ lft fnd : List Int, lft.length = m ∧ (fnd ++ lft).Perm l ∧ ρ = [.v .dr, .v (L l), .own (lft.map .int), .own (fnd.map .int)]) (by
      rintro m ρ w ⟨d, lft, fnd, hm, hp, rfl⟩
      have hlen := hp.length_eq
      rw [List.length_append] at hlen
      have hE : eqR (.m 2 (lft.map .int)) (.n []) = some (decide (lft = [])) := eqR_lst (b := []) rfl rfl
      refine ⟨.v (.bl (!decide (lft = []))), !decide (lft = []), ?_, rfl, fun hb => ?_, fun hb => ?_⟩
      · simp -implicitDefEqProofs [lstR, sizeLine_of, hE]
      · have h0 : lft ≠ [] := by simpa using hb
        have hlp : 0 < lft.length := List.length_pos_iff.mpr h0
        obtain ⟨i, w2, hi, d2, e2⟩ := s21 (n := n) d (a := lft.length) (by omega) (by omega)
        have hi' : i < lft.length := by omega
        refine ⟨lft.length - 1, [.v .dr, .v (L l), .own ((lft.eraseIdx i).map .int), .own ((fnd ++ [lft[i]]).map .int)], w2, by omega, ?_, d2, lft.eraseIdx i, fnd ++ [lft[i]], ?_, ?_, rfl⟩
        · have ea : apppR 3 2 [.v .dr, .v (L l), .own (lft.map D.int), .own (fnd.map D.int)] (fnd.map D.int) (lft.map D.int) (.v (.int i)) = some [.v .dr, .v (L l), .own ((lft.eraseIdx i).map .int), .own ((fnd ++ [lft[i]]).map .int)] := by
            unfold apppR
            have hs := sizeLine_of (n := lft.length) (by omega)
            have hs2 := sizeLine_of (n := fnd.length + 1) (by omega)
            simp only [List.length_map]
            rw [if_neg (by omega), ixN_nat rfl hi']
            simp only [Option.bind_some, List.getElem?_map, List.getElem?_eq_getElem hi', Option.map_some]
            rw [if_pos (by omega), erase_map, List.map_append]
            rfl
          simp -implicitDefEqProofs [e2, ea]
        · rw [List.length_eraseIdx_of_lt hi']
        · refine List.Perm.trans ?_ hp
          rw [List.append_assoc]
          exact List.Perm.append_left fnd (get_erase2 hi')
      · have h0 : lft = [] := by simpa using hb
        rw [← hm, h0]; rfl) l.length 1000 [.v .dr, .v (L l), .own (l.map .int), .own []] w (by omega) ⟨h, l, [], rfl, List.Perm.refl _, rfl⟩
  have hl0 : lft = [] := List.length_eq_zero_iff.mp h0
  subst hl0
  rw [List.append_nil] at hp
  refine ⟨fnd, w', hp, d', ?_⟩
  rw [den_s (fd := ⟨2, 4, b_law_shuffled⟩) rfl rfl (by decide)]
  have el : bi .list [.v (L l)] = some (.n (l.map .int)) := rfl
  simp -implicitDefEqProofs [b_law_shuffled, frzE, lstR, sizeLine_of, el, e1]
theorem intsD_some : ∀ l : List Int, intsD (l.map .int) = some l := intsD_ints
/-- the draws begin -/
theorem s19 {ns : List Int} (hl : ns.length ≤ 1000) : ∃ w', DOk w' ∧ den cfg prog (n + 1) 19 [.scr (ns.map .int)] w00 = .ok (.v .dr) w' := by
  obtain ⟨w0, hw0⟩ : ∃ w0 : Dw, w0 = w00 := ⟨_, rfl⟩
  have hon : w0.on = false := by rw [hw0]; rfl
  rw [← hw0, den_s (fd := ⟨1, 3, b_law_begun⟩) rfl rfl (by decide)]
  have hp : opB .pow (.v (.int 10)) (.v (.int 18)) = some (.v (.int (10 ^ 18))) := opB_pow (i := 10) (j := 18) (by omega) (by omega) (by omega)
  have hq : (10 : Int) ^ 18 = 1000000000000000000 := by decide
  rw [hq] at hp
  simp -implicitDefEqProofs [b_law_begun]
  rw [lcR_pure (e := D.int) (l := ns) (g := fun x => if decide (1000000000000000000 ≤ (if x < 0 then -x else x)) = true then some (.int ((if x < 0 then -x else x) - 1000000000000000000)) else none) rfl (by omega) (fun x hx => by
    rw [lcTurn_eq]
    simp -implicitDefEqProofs [hp]), fm_filter]
  simp -implicitDefEqProofs
  rw [lcR_map (e := D.int) (l := ns) (g := fun x => .int (if x < 0 then -x else x)) rfl (by omega) (fun x hx => by
    rw [lcTurn_eq]
    simp -implicitDefEqProofs)]
  simp -implicitDefEqProofs [hon]
  refine ⟨?_, ?_, ?_, ?_, ?_⟩
  · rfl
  · refine ⟨(ns.filter fun x => decide (1000000000000000000 ≤ if x < 0 then -x else x)).map fun x => (if x < 0 then -x else x) - 1000000000000000000, ?_, ?_⟩
    · rw [List.map_map]; rfl
    · intro y hy
      obtain ⟨x, hx, rfl⟩ := List.mem_map.mp hy
      have := of_decide_eq_true (List.mem_filter.mp hx).2
      omega
  · exact ⟨0, Int.le_refl _, rfl⟩
  · exact ⟨ns.map fun x => if x < 0 then -x else x, by show D.lst _ = D.lst _; rw [List.map_map]; rfl⟩
  · exact ⟨0, rfl⟩
end K03
set_option Elab.async false
set_option linter.all false
set_option maxRecDepth 100000
set_option maxHeartbeats 1000000
namespace K03
open PySem VM VM.R
variable {n : Nat} {w : Dw}
theorem setx_at {ρ : En} {i j : Nat} {f : List Int} {x : Int} (hj : j < f.length) : setxR i ρ (f.map .int) (.v (.int x)) (.v (.int j)) = some (ρ.set i (.own ((f.set j x).map .int))) := by
  unfold setxR
  rw [List.length_map]
  show (L2.ixN f.length (j : Int)).map (fun n => ρ.set i (.own ((f.map D.int).set n (.int x)))) = _
  rw [ixN_nat rfl hj, List.map_set]
  rfl
def swp (f : List Int) (i j : Nat) : List Int := (f.set i (ix f j)).set j (ix f i)
theorem swp_perm {f : List Int} {i j : Nat} (hi : i < f.length) (hj : j < f.length) : (swp f i j).Perm f := by
  unfold swp ix
  rw [getD_of hi, getD_of hj]
  exact List.set_set_perm hi hj
theorem swp_len {f : List Int} {i j : Nat} : (swp f i j).length = f.length := by
  unfold swp
  rw [List.length_set, List.length_set]
/-- a row of S seats -/
structure Rw (S : Nat) (r : List Int) : Prop where
  lo : 1 ≤ S
  hi : S ≤ 8
  p : r.Perm (oneTo S)
theorem Rw.len {S : Nat} {r : List Int} (h : Rw S r) : r.length = S := by rw [h.p.length_eq, oneTo_len]
def swB5 : Ss := .cons (.par [8, 9] (.cons false (.call 21 (.cons false (.x 0) (.cons false (.x 2) .nil))) (.cons false (.call 21 (.cons false (.x 0) (.cons false (.x 2) .nil))) .nil))) (.cons (.set (.nm 7) (.ix (.x 5) (.x 8))) (.cons (.setx 5 (.x 8) (.ix (.x 5) (.x 9))) (.cons (.setx 5 (.x 9) (.x 7)) .nil)))
theorem sw_loop5 {S : Nat} {a X W : Sl} {f : List Int} (h : DOk w) (h1 : 1 ≤ S) (h8 : S ≤ 8) (hf : f.length = S) (l : List D) :
    ∃ (f' : List Int) (w' : Dw) (y6 y7 y8 y9 : Sl), f'.Perm f ∧ DOk w' ∧ forL (exSs cfg (den cfg prog (n + 2)) swB5) (.nm 6) l [.v .dr, a, .v (.int S), X, W, .own (f.map .int), .no, .no, .no, .no] w = .ok ([.v .dr, a, .v (.int S), X, W, .own (f'.map .int), y6, y7, y8, y9], .nx) w' := by
  obtain ⟨ρ', w', e1, d', f', y6, y7, y8, y9, hp, rfl⟩ := forL_inv (p := .nm 6) (body := exSs cfg (den cfg prog (n + 2)) swB5)
    (fun l ρ w' => DOk w' ∧ ∃ (f' : List Int) (y6 y7 y8 y9 : Sl), f'.Perm f ∧ ρ = [.v .dr, a, .v (.int S), X, W, .own (f'.map .int), y6, y7, y8, y9]) (by
      rintro d r ρ w' ⟨hd, f', y6, y7, y8, y9, hp, rfl⟩
      obtain ⟨i, w2, hi, d2, e2⟩ := s21 (n := n) hd (a := (S : Int)) (by omega) (by omega)
      obtain ⟨j, w3, hj, d3, e3⟩ := s21 (n := n) d2 (a := (S : Int)) (by omega) (by omega)
      have hl : f'.length = S := hp.length_eq.trans hf
      have hi' : i < f'.length := by omega
      have hj' : j < f'.length := by omega
      refine ⟨_, [.v .dr, a, .v (.int S), X, W, .own ((swp f' i j).map .int), .v d, .v (.int (ix f' i)), .v (.int i), .v (.int j)], w3, rfl, .inl ?_, d3, swp f' i j, _, _, _, _, (swp_perm hi' hj').trans hp, rfl⟩
      have a1 : atD (f'.map .int) (i : Int) = some (.int (ix f' i)) := atD_ix rfl hi'
      have a2 : atD (f'.map .int) (j : Int) = some (.int (ix f' j)) := atD_ix rfl hj'
      have b1 : ∀ ρ : En, setxR 5 ρ (f'.map .int) (.v (.int (ix f' j))) (.v (.int i)) = some (ρ.set 5 (.own ((f'.set i (ix f' j)).map .int))) := fun ρ => setx_at hi'
      have b2 : ∀ ρ : En, setxR 5 ρ ((f'.set i (ix f' j)).map .int) (.v (.int (ix f' i))) (.v (.int j)) = some (ρ.set 5 (.own ((swp f' i j).map .int))) := fun ρ => setx_at (by rw [List.length_set]; exact hj')
      simp -implicitDefEqProofs [swB5, e2, e3, a1, a2, b1, b2, -List.map_set]) l [.v .dr, a, .v (.int S), X, W, .own (f.map .int), .no, .no, .no, .no] w ⟨h, f, _, _, _, _, List.Perm.refl _, rfl⟩
  exact ⟨f', w', y6, y7, y8, y9, hp, d', e1⟩
theorem rng_some {i : Nat} (h : i ≤ 1000) : ∃ l, rngI [.v (.int i)] = some l := ⟨_, rng_1 (big62_of (by omega) (by omega))⟩
theorem rng_S {S : Nat} (h : S ≤ 1000) : rngI [.v (.int 1), .v (.int ((S : Int) + 1))] = some ((oneTo S).map .int) := by
  have := rng_one (c := oneTo S) (by rw [oneTo_len]; omega)
  rwa [oneTo_len] at this
theorem s26 (h : DOk w) : ∃ (S : Nat) (r : List Int) (w' : Dw), Rw S r ∧ DOk w' ∧ den cfg prog (n + 4) 26 [.dr, .int 8] w = .ok (.v (T r)) w' := by
  obtain ⟨s, w1, hs, d1, e1⟩ := s21 (n := n + 1) h (a := 8) (by omega) (by omega)
  obtain ⟨wy, w2, hw, d2, e2⟩ := s21 (n := n + 1) d1 (a := 4) (by omega) (by omega)
  obtain ⟨S, hSe⟩ : ∃ S, S = s + 1 := ⟨_, rfl⟩
  have hS : (1 : Int) + (s : Int) = (S : Int) := by omega
  have hq : decide ((oneTo S).length ≤ sizeLine) = true := decide_eq_true (sizeLine_of (by rw [oneTo_len]; omega))
  have hr := rng_S (S := S) (by omega)
  -- behind the fourth statement
  suffices main : ∃ (X : Sl) (f : List Int) (w3 : Dw), f.Perm (oneTo S) ∧ DOk w3 ∧ exS cfg (den cfg prog (n + 3)) (.seti (.nm 5) (.cmp .gt (.x 4) (.k (.int 1))) [3] (.call 23 (.cons false (.x 0) (.cons false (.x 3) .nil))) [] (.ife (.cmp .eq (.x 4) (.k (.int 0))) (.x 3) (.rv (.x 3)))) [.v .dr, .v (.int 8), .v (.int (S : Int)), .own ((oneTo S).map .int), .v (.int wy), .no, .no, .no, .no, .no] w2 = .ok ([.v .dr, .v (.int 8), .v (.int (S : Int)), X, .v (.int wy), .own (f.map .int), .no, .no, .no, .no], .nx) w3 by
    obtain ⟨X, f, w3, hf, d3, e3⟩ := main
    have second : ∃ (l : List D) (w4 : Dw), DOk w4 ∧ evS cfg (den cfg prog (n + 3)) (.rng (.cons false (.ife (.cmp .lt (.x 4) (.k (.int 2))) (.call 21 (.cons false (.x 0) (.cons false (.k (.int 3)) .nil))) (.k (.int 0))) .nil)) [.v .dr, .v (.int 8), .v (.int (S : Int)), X, .v (.int wy), .own (f.map .int), .no, .no, .no, .no] w3 = .ok l w4 := by
      by_cases q : (wy : Int) < 2
      · obtain ⟨m, w4, hm, d4, e4⟩ := s21 (n := n + 1) d3 (a := 3) (by omega) (by omega)
        obtain ⟨l, hl⟩ := rng_some (i := m) (by omega)
        refine ⟨l, w4, d4, ?_⟩
        simp -implicitDefEqProofs [q, e4, hl]
      · obtain ⟨l, hl⟩ := rng_some (i := 0) (by omega)
        simp -implicitDefEqProofs only [Int.cast_ofNat_Int] at hl
        refine ⟨l, w3, d3, ?_⟩
        simp -implicitDefEqProofs [q, hl]
    obtain ⟨l, w4, d4, e4⟩ := second
    obtain ⟨f', w5, y6, y7, y8, y9, hp, d5, e5⟩ := sw_loop5 (n := n + 1) (S := S) (a := .v (.int 8)) (X := X) (W := .v (.int wy)) (f := f) d4 (by omega) (by omega) (by rw [hf.length_eq, oneTo_len]) l
    refine ⟨S, f', w5, ⟨by omega, by omega, hp.trans hf⟩, d5, ?_⟩
    rw [den_s (fd := ⟨2, 10, b_law_row⟩) rfl rfl (by decide)]
    show (exSs cfg (den cfg prog (n + 3)) b_law_row [.v .dr, .v (.int 8), .no, .no, .no, .no, .no, .no, .no, .no] w).bind outR = _
    unfold b_law_row
    rw [step (ρ' := [.v .dr, .v (.int 8), .v (.int (S : Int)), .no, .no, .no, .no, .no, .no, .no]) (w' := w1) (by simp -implicitDefEqProofs [e1, hS]) rfl]
    rw [step (ρ' := [.v .dr, .v (.int 8), .v (.int (S : Int)), .own ((oneTo S).map .int), .no, .no, .no, .no, .no, .no]) (w' := w1) (by simp -implicitDefEqProofs [hr, hq]) rfl]
    rw [step (ρ' := [.v .dr, .v (.int 8), .v (.int (S : Int)), .own ((oneTo S).map .int), .v (.int wy), .no, .no, .no, .no, .no]) (w' := w2) (by simp -implicitDefEqProofs [e2]) rfl]
    rw [step e3 rfl]
    rw [step (s := .forr _ _ _) (ρ' := [.v .dr, .v (.int 8), .v (.int (S : Int)), X, .v (.int wy), .own (f'.map .int), y6, y7, y8, y9]) (w' := w5) (by rw [ex_for, e4, Res.bind_ok]; exact e5) rfl]
    simp -implicitDefEqProofs [fold_T]
  by_cases q : (1 : Int) < wy
  · obtain ⟨p, w3, hp, d3, e3⟩ := s23 (n := n) d2 (l := oneTo S) (by rw [oneTo_len]; omega)
    refine ⟨.v (L (oneTo S)), p, w3, hp, d3, ?_⟩
    simp -implicitDefEqProofs [q, frzs_cons, e3]
  · by_cases q2 : (wy : Int) = 0
    · refine ⟨.no, oneTo S, w2, List.Perm.refl _, d2, ?_⟩
      simp -implicitDefEqProofs [q, q2]
    · refine ⟨.own ((oneTo S).map .int), (oneTo S).reverse, w2, List.reverse_perm _, d2, ?_⟩
      have hrv : rvR (RV.m 3 ((oneTo S).map D.int)) = some (.n ((oneTo S).reverse.map .int)) := by rw [List.map_reverse]; rfl
      have q3 : ¬wy = 0 := by omega
      simp -implicitDefEqProofs [q, q3, hrv]
def swB2 : Ss := .cons (.par [5, 6] (.cons false (.call 21 (.cons false (.x 0) (.cons false (.bi .len (.cons false (.x 2) .nil)) .nil))) (.cons false (.call 21 (.cons false (.x 0) (.cons false (.bi .len (.cons false (.x 2) .nil)) .nil))) .nil))) (.cons (.set (.nm 4) (.ix (.x 2) (.x 5))) (.cons (.setx 2 (.x 5) (.ix (.x 2) (.x 6))) (.cons (.setx 2 (.x 6) (.x 4)) .nil)))
theorem sw_loop2 {a : Sl} {f : List Int} (h : DOk w) (h1 : 1 ≤ f.length) (h8 : f.length ≤ 8) (l : List D) :
    ∃ (f' : List Int) (w' : Dw) (y3 y4 y5 y6 : Sl), f'.Perm f ∧ DOk w' ∧ forL (exSs cfg (den cfg prog (n + 2)) swB2) (.nm 3) l [.v .dr, a, .own (f.map .int), .no, .no, .no, .no] w = .ok ([.v .dr, a, .own (f'.map .int), y3, y4, y5, y6], .nx) w' := by
  obtain ⟨ρ', w', e1, d', f', y3, y4, y5, y6, hp, rfl⟩ := forL_inv (p := .nm 3) (body := exSs cfg (den cfg prog (n + 2)) swB2)
    (fun l ρ w' => DOk w' ∧ ∃ (f' : List Int) (y3 y4 y5 y6 : Sl), f'.Perm f ∧ ρ = [.v .dr, a, .own (f'.map .int), y3, y4, y5, y6]) (by
      rintro d r ρ w' ⟨hd, f', y3, y4, y5, y6, hp, rfl⟩
      have hl : f'.length = f.length := hp.length_eq
      obtain ⟨i, w2, hi, d2, e2⟩ := s21 (n := n) hd (a := (f'.length : Int)) (by omega) (by omega)
      obtain ⟨j, w3, hj, d3, e3⟩ := s21 (n := n) d2 (a := (f'.length : Int)) (by omega) (by omega)
      have hi' : i < f'.length := by omega
      have hj' : j < f'.length := by omega
      refine ⟨_, [.v .dr, a, .own ((swp f' i j).map .int), .v d, .v (.int (ix f' i)), .v (.int i), .v (.int j)], w3, rfl, .inl ?_, d3, swp f' i j, _, _, _, _, (swp_perm hi' hj').trans hp, rfl⟩
      have a1 : atD (f'.map .int) (i : Int) = some (.int (ix f' i)) := atD_ix rfl hi'
      have a2 : atD (f'.map .int) (j : Int) = some (.int (ix f' j)) := atD_ix rfl hj'
      have b1 : ∀ ρ : En, setxR 2 ρ (f'.map .int) (.v (.int (ix f' j))) (.v (.int i)) = some (ρ.set 2 (.own ((f'.set i (ix f' j)).map .int))) := fun ρ => setx_at hi'
      have b2 : ∀ ρ : En, setxR 2 ρ ((f'.set i (ix f' j)).map .int) (.v (.int (ix f' i))) (.v (.int j)) = some (ρ.set 2 (.own ((swp f' i j).map .int))) := fun ρ => setx_at (by rw [List.length_set]; exact hj')
      simp -implicitDefEqProofs [swB2, e2, e3, a1, a2, b1, b2, -List.map_set]) l [.v .dr, a, .own (f.map .int), .no, .no, .no, .no] w ⟨h, f, _, _, _, _, List.Perm.refl _, rfl⟩
  exact ⟨f', w', y3, y4, y5, y6, hp, d', e1⟩
theorem s27 (h : DOk w) {r : List Int} (h1 : 1 ≤ r.length) (h8 : r.length ≤ 8) : ∃ (p : List Int) (w' : Dw), p.Perm r ∧ DOk w' ∧ den cfg prog (n + 4) 27 [.dr, T r] w = .ok (.v (T p)) w' := by
  obtain ⟨s, w1, hs, d1, e1⟩ := s21 (n := n + 1) h (a := 3) (by omega) (by omega)
  by_cases q : (s : Int) = 0
  · obtain ⟨p, w2, hp, d2, e2⟩ := s23 (n := n) d1 (l := r) (by omega)
    refine ⟨p, w2, hp, d2, ?_⟩
    rw [den_s (fd := ⟨2, 7, b_law_mate⟩) rfl rfl (by decide)]
    simp -implicitDefEqProofs [b_law_mate, e1, q, frzE, e2, fold_T]
  · obtain ⟨m, w2, hm, d2, e2⟩ := s21 (n := n + 1) d1 (a := 3) (by omega) (by omega)
    obtain ⟨l, hl⟩ := rng_some (i := 1 + m) (by omega)
    rw [show ((1 + m : Nat) : Int) = 1 + (m : Int) by omega] at hl
    obtain ⟨f', w5, y3, y4, y5, y6, hp, d5, e5⟩ := sw_loop2 (n := n + 1) (a := .v (T r)) (f := r) d2 h1 h8 l
    refine ⟨f', w5, hp, d5, ?_⟩
    rw [den_s (fd := ⟨2, 7, b_law_mate⟩) rfl rfl (by decide)]
    unfold swB2 at e5
    have q3 : ¬s = 0 := by omega
    simp -implicitDefEqProofs [b_law_mate, e1, q3, e2, hl, e5, fold_T]
end K03
set_option Elab.async false
set_option linter.all false
set_option maxRecDepth 100000
set_option maxHeartbeats 1000000
namespace K03
open PySem VM VM.R
variable {n : Nat} {w : Dw}
theorem dedup_go : ∀ (l acc : List Int), (acc ++ l).Nodup → l.foldl (fun acc k => if acc.any (· == k) then acc else acc ++ [k]) acc = acc ++ l
  | [], acc, _ => by simp
  | x :: l, acc, h => by
    have hx : x ∉ acc := by
      intro hx
      have := (List.nodup_append.mp h).2.2 x hx x List.mem_cons_self
      exact this rfl
    have h0 : (acc.any (· == x)) = false := by
      rw [List.any_eq_false]
      intro y hy
      simp only [beq_iff_eq]
      intro e
      exact hx (e ▸ hy)
    rw [List.foldl_cons, h0]
    show l.foldl _ (acc ++ [x]) = _
    have h2 : ((acc ++ [x]) ++ l).Nodup := by rw [List.append_assoc]; exact h
    rw [dedup_go l (acc ++ [x]) h2, List.append_assoc]
    rfl
theorem dedup_nodup {l : List Int} (h : l.Nodup) : dedup l = l := dedup_go l [] (by simpa using h)
theorem Rw.bd {S : Nat} {r : List Int} (h : Rw S r) : ∀ x ∈ r, 1 ≤ x ∧ x ≤ S := fun x hx => by
  have := h.p.mem_iff.mp hx
  unfold oneTo at this
  obtain ⟨i, hi, rfl⟩ := List.mem_map.mp this
  have := List.mem_range.mp hi
  omega
theorem Rw.nd {S : Nat} {r : List Int} (h : Rw S r) : r.Nodup := h.p.nodup_iff.mpr ((up_oneTo S).imp fun h => by omega)
theorem mem_oneTo {S : Nat} {x : Int} (h1 : 1 ≤ x) (h2 : x ≤ S) : x ∈ oneTo S := by
  unfold oneTo
  exact List.mem_map.mpr ⟨(x - 1).toNat, List.mem_range.mpr (by omega), by omega⟩
theorem Rw.row {S : Nat} {r : List Int} (h : Rw S r) : isRow (T r) = true := by
  have hl := h.len
  have hS : 1 ≤ S ∧ S ≤ 8 := ⟨h.lo, h.hi⟩
  show (decide ((1 : Int) ≤ ((r.map D.int).length : Int)) && decide (((r.map D.int).length : Int) ≤ 8) && hasEach (r.map .int)) = true
  have h1 : hasEach (r.map .int) = true := by
    unfold hasEach
    rw [intsD_ints]
    show ((r.map D.int).all (btw · 1 (r.map D.int).length) && decide ((dedup r).length = (r.map D.int).length)) = true
    rw [dedup_nodup h.nd, List.length_map, decide_eq_true rfl, Bool.and_true, List.all_eq_true]
    intro d hd
    obtain ⟨x, hx, rfl⟩ := List.mem_map.mp hd
    have := h.bd x hx
    show (decide (1 ≤ x) && decide (x ≤ (r.length : Int))) = true
    rw [decide_eq_true this.1, decide_eq_true (by rw [hl]; exact this.2)]
    rfl
  rw [h1, List.length_map, hl, decide_eq_true (by omega), decide_eq_true (by omega)]
  rfl
theorem isRow_bad {ds : List D} {d : D} (hd : d ∈ ds) (hb : btw d 1 ds.length = false) : isRow (.tup ds) = false := by
  have : hasEach ds = false := by
    unfold hasEach
    rw [show ds.all (btw · 1 ds.length) = false from by rw [List.all_eq_false]; exact ⟨d, hd, by rw [hb]; decide⟩]
    rfl
  show (decide ((1 : Int) ≤ (ds.length : Int)) && decide ((ds.length : Int) ≤ 8) && hasEach ds) = false
  rw [this, Bool.and_false]
theorem cut_last (l : List D) : cutD l none (some (-1)) = l.take (l.length - 1) := by
  unfold cutD
  rw [HT.sIx_none, show HT.sIx l.length l.length (some (-1)) = l.length - 1 by
    show (if (-1 : Int) < 0 then ((-1 : Int) + (l.length : Int)).toNat else min (-1 : Int).toNat l.length) = _
    rw [if_pos (by decide)]
    omega]
  rfl
def most (r : List Int) : List Int := r.take (r.length - 1)
def noA (r : List Int) : List D := [.non, .int 5, .str "12", .tup [], L r, T (r ++ [(r.length : Int)]), T (r ++ [0]), T (0 :: r), T (r.map (· - 1)), T [1, 2, 3, 4, 5, 6, 7, 8, 9]]
def noB (r : List Int) : List D := [T (most r ++ [(r.length : Int) + 1]), .tup ((most r).map .int ++ [.non]), .tup ((most r).map .int ++ [.str "1"]), .tup (r.map fun i => .str (toString i)), .emp, .tup [.tup [.int 1]], .tup [.bl true]]
def tr1 (x : Int) : D := if x = 1 then .bl true else .int x
def noC (r : List Int) : List D := [.tup (r.map tr1)]
def noRows (r : List Int) : List D := noA r ++ noB r ++ noC r
theorem most_len {r : List Int} : (most r).length = r.length - 1 := by unfold most; rw [List.length_take]; omega
theorem no_len {r : List Int} : (noRows r).length = 18 := rfl
theorem s29 (h : DOk w) {S : Nat} {r : List Int} (hr : Rw S r) : ∃ (d : D) (w' : Dw), d ∈ noRows r ∧ DOk w' ∧ den cfg prog (n + 4) 29 [.dr, T r] w = .ok (.v d) w' := by
  have hlen := hr.len
  have hlo := hr.lo
  have hhi := hr.hi
  obtain ⟨d, w', hd, d', e⟩ := s22 (n := n) h (ds := noRows r) (by rw [← List.length_pos_iff, no_len]; omega) (by rw [no_len]; omega)
  refine ⟨d, w', hd, d', ?_⟩
  have hm := most_len (r := r)
  rw [den_s (fd := ⟨2, 5, b_law_no_row⟩) rfl rfl (by decide)]
  show (exSs cfg (den cfg prog (n + 3)) b_law_no_row [.v .dr, .v (T r), .no, .no, .no] w).bind outR = _
  unfold b_law_no_row
  rw [step (ρ' := [.v .dr, .v (T r), .v (.int r.length), .no, .no]) (w' := w) (by simp -implicitDefEqProofs) rfl]
  have h1 : ∀ x : Int, opB .add (.v (T r)) (.v (.tup [.int x])) = some (.v (T (r ++ [x]))) := fun x => T_add (b := [x]) (by simp; omega)
  have h2 : opB .add (.v (.tup [.int 0])) (.v (T r)) = some (.v (T (0 :: r))) := T_add (a := [0]) (by simp; omega)
  have h3 : rngI [.v (.int 1), .v (.int 10)] = some ([1, 2, 3, 4, 5, 6, 7, 8, 9].map .int) := rfl
  have h4 : lcR cfg (den cfg prog (n + 3)) (.bin .sub (.x 4) (.k (.int 1))) (.nm 4) .no [.v .dr, .v (T r), .v (.int r.length), .no, .no] (r.map .int) w = .ok (.n ((r.map (· - 1)).map .int)) w := by
    rw [lcR_map (e := D.int) (g := fun x => .int (x - 1)) rfl (by omega) (fun x hx => by rw [lcTurn_eq]; simp -implicitDefEqProofs), List.map_map]
    rfl
  have h6 : D.tup [.int 1, .int 2, .int 3, .int 4, .int 5, .int 6, .int 7, .int 8, .int 9] = T [1, 2, 3, 4, 5, 6, 7, 8, 9] := rfl
  have hl9 : decide (9 ≤ sizeLine) = true := decide_eq_true (sizeLine_of (by omega))
  have h8 : D.lst (r.map .int) = L r := rfl
  rw [step (ρ' := [.v .dr, .v (T r), .v (.int r.length), .own (noA r), .no]) (w' := w) (by
    simp -implicitDefEqProofs [lstR, tupR, sizeLine_of, h1, h2, h3, h4, hl9, noA, h6, fold_T, -List.map_map]) rfl]
  rw [step (ρ' := [.v .dr, .v (T r), .v (.int r.length), .v (.lst (noA r)), .no]) (w' := w) (by simp -implicitDefEqProofs [frzE]) rfl]
  have c1 : cutD (r.map .int) none (some (-1)) = (most r).map .int := by rw [cut_last, List.length_map, ← List.map_take]; rfl
  have b1 : ∀ x : D, opB .add (.v (.tup ((most r).map .int))) (.v (.tup [x])) = some (.v (.tup ((most r).map .int ++ [x]))) := fun x => opB_at (by rw [List.length_map]; simp only [List.length_singleton]; exact sizeLine_of (by omega))
  have b2 : lcR cfg (den cfg prog (n + 3)) (.bi .str (.cons false (.x 4) .nil)) (.nm 4) .no [.v .dr, .v (T r), .v (.int r.length), .v (.lst (noA r)), .no] (r.map .int) w = .ok (.n (r.map fun i => .str (toString i))) w := by
    rw [lcR_map (e := D.int) (g := fun x => .str (toString x)) rfl (by omega) (fun x hx => by
      have hb := hr.bd x hx
      have hlog : x.natAbs.log2 < 1920 := Nat.lt_of_le_of_lt (log_le (m := 4) (by omega)) (by decide)
      rw [lcTurn_eq]
      simp -implicitDefEqProofs [bi_strI hlog])]
  have b3 : opB .add (.v (.lst (noA r))) (.n (noB r)) = some (.n (noA r ++ noB r)) := opB_al rfl rfl (sizeLine_of (by show 10 + 7 ≤ _; omega))
  rw [step (ρ' := [.v .dr, .v (T r), .v (.int r.length), .own (noA r ++ noB r), .no]) (w' := w) (by
    have b4 : ∀ u : RV, u = .n (noB r) → opB .add (.v (.lst (noA r))) u = some (.n (noA r ++ noB r)) := fun u hu => by rw [hu]; exact b3
    simp -implicitDefEqProofs [lstR, tupR, sizeLine_of, c1, b1, b2]
    rw [b4 _ (by rw [noB, T, List.map_append]; rfl)]
    simp -implicitDefEqProofs) rfl]
  rw [step (ρ' := [.v .dr, .v (T r), .v (.int r.length), .v (.lst (noA r ++ noB r)), .no]) (w' := w) (by simp -implicitDefEqProofs [frzE]) rfl]
  have e1 : lcR cfg (den cfg prog (n + 3)) (.boo false (.cons false (.cmp .eq (.x 4) (.k (.int 1))) (.cons false (.x 4) .nil))) (.nm 4) .no [.v .dr, .v (T r), .v (.int r.length), .v (.lst (noA r ++ noB r)), .no] (r.map .int) w = .ok (.n (r.map tr1)) w := by
    rw [lcR_map (e := D.int) (g := tr1) rfl (by omega) (fun x hx => by
      rw [lcTurn_eq]
      by_cases q : x = 1
      · simp -implicitDefEqProofs [q, tr1]
      · simp -implicitDefEqProofs [q, tr1])]
  have e2 : opB .add (.v (.lst (noA r ++ noB r))) (.n [.tup (r.map tr1)]) = some (.n (noRows r)) := opB_al rfl rfl (sizeLine_of (by show 17 + 1 ≤ _; omega))
  rw [step (ρ' := [.v .dr, .v (T r), .v (.int r.length), .own (noRows r), .no]) (w' := w) (by
    simp -implicitDefEqProofs [lstR, sizeLine_of, e1, e2]) rfl]
  rw [step (ρ' := [.v .dr, .v (T r), .v (.int r.length), .v (.lst (noRows r)), .no]) (w' := w) (by simp -implicitDefEqProofs [frzE]) rfl]
  simp -implicitDefEqProofs [e]
theorem dedup_more {r : List Int} {x : Int} (h : r.Nodup) (hx : x ∈ r) : dedup (r ++ [x]) = r := by
  unfold dedup
  rw [List.foldl_append, show r.foldl _ [] = r from dedup_nodup h]
  show (if r.any (· == x) then r else r ++ [x]) = r
  rw [if_pos]
  exact List.any_eq_true.mpr ⟨x, hx, by simp⟩
theorem btw_no {x lo hi : Int} (h : x < lo ∨ hi < x) : btw (.int x) lo hi = false := by
  show (decide (lo ≤ x) && decide (x ≤ hi)) = false
  rcases h with h | h
  · rw [decide_eq_false (by omega)]; rfl
  · rw [decide_eq_false (p := x ≤ hi) (by omega), Bool.and_false]
theorem no_rows {S : Nat} {r : List Int} (hr : Rw S r) {d : D} (hd : d ∈ noRows r) : isRow d = false ∧ plA d = true := by
  have hlen := hr.len
  have hlo := hr.lo
  have hhi := hr.hi
  have hm := most_len (r := r)
  have h1 : (1 : Int) ∈ r := hr.p.mem_iff.mpr (mem_oneTo (by omega) (by omega))
  have hS : (S : Int) ∈ r := hr.p.mem_iff.mpr (mem_oneTo (by omega) (by omega))
  have pT : ∀ l : List Int, l.length ≤ 1000 → plA (T l) = true := fun l h => plT h
  have pI : ∀ l : List Int, ∀ z ∈ l.map D.int, pl z = true := fun l z hz => by obtain ⟨i, _, rfl⟩ := List.mem_map.mp hz; rfl
  have pA : ∀ (l : List Int) (x : D), pl x = true → l.length ≤ 900 → plA (.tup (l.map .int ++ [x])) = true := fun l x hx h => by
    show ((l.map D.int ++ [x]).all pl && decide ((l.map D.int ++ [x]).length ≤ 1000)) = true
    rw [decide_eq_true (by rw [List.length_append, List.length_map, List.length_singleton]; omega), Bool.and_true, List.all_eq_true]
    intro z hz
    rcases List.mem_append.mp hz with q | q
    · exact pI l z q
    · rw [List.mem_singleton.mp q]; exact hx
  simp only [noRows, noA, noB, noC, List.mem_append, List.mem_cons, List.not_mem_nil, or_false] at hd
  rcases hd with ((rfl | rfl | rfl | rfl | rfl | rfl | rfl | rfl | rfl | rfl) | (rfl | rfl | rfl | rfl | rfl | rfl | rfl)) | rfl
  · exact ⟨rfl, rfl⟩
  · exact ⟨rfl, rfl⟩
  · exact ⟨rfl, rfl⟩
  · exact ⟨rfl, rfl⟩
  · exact ⟨rfl, rfl⟩
  · refine ⟨?_, pT _ (by simp; omega)⟩
    have : hasEach ((r ++ [(r.length : Int)]).map .int) = false := by
      unfold hasEach
      rw [intsD_ints]
      show (((r ++ [(r.length : Int)]).map D.int).all (btw · 1 ((r ++ [(r.length : Int)]).map D.int).length) && decide ((dedup (r ++ [(r.length : Int)])).length = ((r ++ [(r.length : Int)]).map D.int).length)) = false
      rw [dedup_more hr.nd (by rw [hlen]; exact hS), decide_eq_false (by simp), Bool.and_false]
    show (decide ((1 : Int) ≤ (((r ++ [(r.length : Int)]).map D.int).length : Int)) && decide ((((r ++ [(r.length : Int)]).map D.int).length : Int) ≤ 8) && hasEach ((r ++ [(r.length : Int)]).map .int)) = false
    rw [this, Bool.and_false]
  · exact ⟨isRow_bad (d := .int 0) (by simp) (btw_no (.inl (by omega))), pT _ (by simp; omega)⟩
  · exact ⟨isRow_bad (d := .int 0) (by simp) (btw_no (.inl (by omega))), pT _ (by simp; omega)⟩
  · exact ⟨isRow_bad (d := .int 0) (List.mem_map.mpr ⟨0, List.mem_map.mpr ⟨1, h1, rfl⟩, rfl⟩) (btw_no (.inl (by omega))), pT _ (by simp; omega)⟩
  · exact ⟨rfl, rfl⟩
  · exact ⟨isRow_bad (d := .int ((r.length : Int) + 1)) (by simp) (btw_no (.inr (by simp; omega))), pT _ (by simp; omega)⟩
  · exact ⟨isRow_bad (d := .non) (by simp) rfl, pA _ _ rfl (by omega)⟩
  · exact ⟨isRow_bad (d := .str "1") (by simp) rfl, pA _ _ rfl (by omega)⟩
  · refine ⟨isRow_bad (d := .str (toString (1 : Int))) (List.mem_map.mpr ⟨1, h1, rfl⟩) rfl, ?_⟩
    show ((r.map fun i => D.str (toString i)).all pl && decide ((r.map fun i => D.str (toString i)).length ≤ 1000)) = true
    rw [decide_eq_true (by rw [List.length_map]; omega), Bool.and_true, List.all_eq_true]
    intro z hz
    obtain ⟨i, _, rfl⟩ := List.mem_map.mp hz
    rfl
  · exact ⟨rfl, rfl⟩
  · exact ⟨rfl, rfl⟩
  · exact ⟨rfl, rfl⟩
  · refine ⟨isRow_bad (d := .bl true) (List.mem_map.mpr ⟨1, h1, rfl⟩) rfl, ?_⟩
    show ((r.map tr1).all pl && decide ((r.map tr1).length ≤ 1000)) = true
    rw [decide_eq_true (by rw [List.length_map]; omega), Bool.and_true, List.all_eq_true]
    intro z hz
    obtain ⟨i, _, rfl⟩ := List.mem_map.mp hz
    unfold tr1
    split <;> rfl
/-! ### words -/
theorem s30r : den cfg prog (n + 1) 30 [.err 2 []] w = .ok (.v (.str "row")) w := by
  rw [den_s (fd := ⟨1, 1, b_law_word⟩) rfl rfl (by decide)]
  simp -implicitDefEqProofs [b_law_word, isaT]
theorem s30c : den cfg prog (n + 1) 30 [.err 3 []] w = .ok (.v (.str "code")) w := by
  rw [den_s (fd := ⟨1, 1, b_law_word⟩) rfl rfl (by decide)]
  simp -implicitDefEqProofs [b_law_word, isaT]
def wordN (p : Str) : Str := "number " ++ (PyData.str p).shown
theorem s30n {p : Str} (h1 : okR (.str p) = true) (h2 : (("number " : Str)).length + (PyData.str p).shown.length ≤ sizeLine) : den cfg prog (n + 1) 30 [.err 1 [.str p]] w = .ok (.v (.str (wordN p))) w := by
  rw [den_s (fd := ⟨1, 1, b_law_word⟩) rfl rfl (by decide)]
  have hr : bi .repr [.v (.str p)] = some (.v (.str (PyData.str p).shown)) := repr_of rfl h1
  have ha : opB .add (.v (.str "number ")) (.v (.str (PyData.str p).shown)) = some (.v (.str (wordN p))) := if_pos h2
  simp -implicitDefEqProofs [b_law_word, isaT, fldR, hr, ha]
end K03
set_option Elab.async false
set_option linter.all false
set_option maxRecDepth 100000
set_option maxHeartbeats 1000000
namespace K03
open PySem VM VM.R
variable {n : Nat} {w : Dw}
theorem opC_ltTT {a b : List Int} : opC .lt (.v (T a)) (.v (T b)) = some (HT.lexLt a b) := opC_ltT
theorem num_inj {S : Nat} {a b : List Int} (ha : Rw S a) (hb : Rw S b) : (numR 0 (codeL a) = numR 0 (codeL b)) ↔ a = b := by
  constructor
  · intro e
    have e1 := at_num (codeL_valid a)
    have e2 := at_num (codeL_valid b)
    rw [codeL_len, ha.len] at e1
    rw [codeL_len, hb.len] at e2
    have ec : codeL a = codeL b := by rw [← e1, ← e2, e]
    have f1 := from_code (r := a) (by rw [ha.len]; exact ha.p)
    have f2 := from_code (r := b) (by rw [hb.len]; exact hb.p)
    rw [← f1, ← f2, ec]
  · intro e; rw [e]
theorem s37 {S : Nat} {a b : List Int} (ha : Rw S a) (hb : Rw S b) : den cfg prog (n + 7) 37 [T a, T b] w = .ok (.v (.bl true)) w := by
  have la := ha.len
  have lb := hb.len
  have h1 := ha.hi
  have c1 := code_lex (up_oneTo S) ha.p hb.p
  have c2 := num_lex (a := 0) (codeL_valid a) (codeL_valid b) (by rw [codeL_len, codeL_len, la, lb]) (Int.le_refl _)
  have c3 : decide (numR 0 (codeL a) = numR 0 (codeL b)) = decide (a = b) := decide_eq_decide.mpr (num_inj ha hb)
  rw [den_s (fd := ⟨2, 2, b_law_two_right⟩) rfl rfl (by decide)]
  simp -implicitDefEqProofs [b_law_two_right, opC_ltTT, T_eq, s12 (n := n) (r := a) (by omega) ha.row, s12 (n := n) (r := b) (by omega) hb.row, s16 (n := n) (r := a) (by omega) ha.row, s16 (n := n) (r := b) (by omega) hb.row, c1, c2, c3]
/-! ### one row -/
theorem Rw.small {S : Nat} {r : List Int} (h : Rw S r) : ∀ i ∈ r, i.natAbs ≤ 1000000000 := fun i hi => by
  have := h.bd i hi
  have := h.hi
  omega
theorem codeL_bd : ∀ (r : List Int), ∀ x ∈ codeL r, 0 ≤ x ∧ x ≤ r.length
  | [], x, h => by cases h
  | y :: r, x, h => by
    have hc : cnt y r ≤ r.length := List.length_filter_le _ _
    rcases List.mem_cons.mp h with rfl | h
    · rw [List.length_cons]; omega
    · have := codeL_bd r x h
      rw [List.length_cons]; omega
theorem bi_repr_n {ds : List D} : bi .repr [.n ds] = bi .repr [.v (.lst ds)] := rfl
theorem rep_tt {a : List Int} (ha : ∀ i ∈ a, i.natAbs ≤ 1000000000) (la : a.length ≤ 1000) : ∃ x : Str, bi .repr [.n [T a, T a]] = some (.v (.str x)) :=
  ⟨_, by rw [bi_repr_n]; exact repr_of py_two (okR_two ha ha la la)⟩
theorem rep_ii {k : Int} (h : k.natAbs ≤ 1000000000) : ∃ x : Str, bi .repr [.n [.int k, .int k]] = some (.v (.str x)) := by
  have hs : ∀ i ∈ [k, k], i.natAbs ≤ 1000000000 := fun i hi => by
    rcases List.mem_cons.mp hi with rfl | hi
    · exact h
    · rw [List.mem_singleton.mp hi]; exact h
  have hk : okR (.list ([k, k].map PyData.int)) = true := by
    unfold okR
    have h1 := wt_ints [k, k] hs
    have h2 : smallR (.list ([k, k].map PyData.int)) = true := small_ints (Nat.le_refl _) [k, k] hs
    have h3 : PyData.depth (.list ([k, k].map PyData.int)) = 1 := by simp only [PyData.depth, dep_ints]
    have h4 : PyData.weight (.list ([k, k].map PyData.int)) = PyData.weightAll ([k, k].map PyData.int) := by simp only [PyData.weight]
    rw [List.length_cons, List.length_singleton] at h1
    rw [h2, h3, h4, decide_eq_true (show 1 < 60 by omega), decide_eq_true (show PyData.weightAll ([k, k].map PyData.int) ≤ 1048576 by omega)]
    rfl
  exact ⟨_, by rw [bi_repr_n]; exact repr_of (py_lst [k, k]) hk⟩
theorem cnt_mono {x y : Int} (h : x ≤ y) (l : List Int) : cnt x l ≤ cnt y l := by
  induction l with
  | nil => exact Nat.le_refl _
  | cons z l ih =>
    unfold cnt at ih ⊢
    rw [List.filter_cons, List.filter_cons]
    by_cases h1 : z < x
    · rw [decide_eq_true h1, decide_eq_true (show z < y by omega)]
      simp only [if_true, List.length_cons]
      omega
    · rw [decide_eq_false h1]
      simp only [Bool.false_eq_true, if_false]
      split
      · rw [List.length_cons]; omega
      · exact ih
theorem ix_code {r : List Int} {i : Nat} (h : i < r.length) : ix (codeL r) i = cnt (ix r i) (r.drop (i + 1)) := by
  rw [codeL_rng]
  show (((List.range r.length).map fun i => ((cnt (ix r i) (r.drop (i + 1)) : Nat) : Int)).getD i 0) = _
  rw [List.getD_eq_getElem?_getD, List.getElem?_map, List.getElem?_range h]
  rfl
theorem falls_code (r : List Int) : fallsL (codeL r) = fallsL r := by
  unfold fallsL
  rw [codeL_len]
  congr 1
  refine List.filter_congr fun i hi => ?_
  have hi := List.mem_range.mp hi
  refine decide_eq_decide.mpr ?_
  rw [ix_code (by omega), ix_code (by omega)]
  have hd : r.drop (i + 1) = ix r (i + 1) :: r.drop (i + 1 + 1) := by
    have h2 : i + 1 < r.length := by omega
    rw [List.drop_eq_getElem_cons h2, ix, getD_of h2]
  rw [hd]
  have key : cnt (ix r i) (ix r (i + 1) :: r.drop (i + 1 + 1)) = if ix r (i + 1) < ix r i then cnt (ix r i) (r.drop (i + 1 + 1)) + 1 else cnt (ix r i) (r.drop (i + 1 + 1)) := by
    unfold cnt
    rw [List.filter_cons]
    by_cases q : ix r (i + 1) < ix r i
    · rw [if_pos (decide_eq_true q), if_pos q]; rfl
    · rw [if_neg (by rw [decide_eq_false q]; decide), if_neg q]
  rw [key]
  by_cases q : ix r (i + 1) < ix r i
  · have := cnt_mono (Int.le_of_lt q) (r.drop (i + 1 + 1))
    rw [if_pos q]
    constructor
    · intro _; exact q
    · intro _; omega
  · have := cnt_mono (show ix r i ≤ ix r (i + 1) by omega) (r.drop (i + 1 + 1))
    rw [if_neg q]
    constructor
    · intro z; omega
    · intro z; exact absurd z q
theorem Rw.num {S : Nat} {r : List Int} (h : Rw S r) : 0 ≤ numR 0 (codeL r) ∧ numR 0 (codeL r) < fac S := by
  have := num_lt (codeL_valid r)
  rwa [codeL_len, h.len] at this
theorem fac_le : ∀ S ≤ 8, fac S ≤ 40320 := by decide
theorem Rw.code {S : Nat} {r : List Int} (h : Rw S r) : isCode (T (codeL r)) = true := by
  have := h.len
  have := h.lo
  have := h.hi
  rw [isCode_T (by rw [codeL_len]; omega) (by rw [codeL_len]; omega)]
  exact codeL_valid r
theorem Rw.back {S : Nat} {r : List Int} (h : Rw S r) : fromL (codeL r) = r := from_code (by rw [h.len]; exact h.p)
theorem Rw.at {S : Nat} {r : List Int} (h : Rw S r) : fromL (codeAt S (numR 0 (codeL r))) = r := by
  have e1 := at_num (codeL_valid r)
  rw [codeL_len, h.len] at e1
  rw [e1, h.back]
theorem s36 {S : Nat} {r : List Int} (h : Rw S r) : den cfg prog (n + 7) 36 [T r] w = .ok (.v (.bl true)) w := by
  have hlen := h.len
  have hlo := h.lo
  have hhi := h.hi
  obtain ⟨k0, k1⟩ := h.num
  have k2 := fac_le S hhi
  obtain ⟨c, hc⟩ : ∃ c, c = codeL r := ⟨_, rfl⟩
  obtain ⟨k, hk⟩ : ∃ k, k = numR 0 c := ⟨_, rfl⟩
  rw [← hc, ← hk] at k0 k1
  have lc : c.length = S := by rw [hc, codeL_len, hlen]
  obtain ⟨x1, r1⟩ := rep_tt (a := c) (fun i hi => by have := codeL_bd r i (hc ▸ hi); omega) (by omega)
  obtain ⟨x2, r2⟩ := rep_tt (a := r) h.small (by omega)
  obtain ⟨x3, r3⟩ := rep_ii (k := k) (by omega)
  have hcode : isCode (T c) = true := by rw [hc]; exact h.code
  have hback : fromL c = r := by rw [hc]; exact h.back
  have e31 := s31 (n := n + 5) (w := w) (r := r) (by omega)
  have e34 := s34 (n := n + 5) (w := w) (c := c) (by omega)
  have e12 := s12 (n := n) (w := w) (r := r) (by omega) h.row
  have e15 := s15 (n := n + 2) (w := w) hcode
  have e16 := s16 (n := n) (w := w) (r := r) (by omega) h.row
  have e18 := s18 (n := n) (w := w) hlo hhi k0 k1
  have e8 := s8 (n := n) (w := w) (r := r) (by omega) h.row
  have e10 := s10 (n := n) (w := w) (r := r) (by omega) h.row
  have e13 := s13 (n := n + 3) (w := w) (plT (r := c) (by omega))
  have e33 := s33 (n := n + 5) (w := w) (c := c) (by omega) (by rw [hc]; exact codeL_valid r)
  rw [hcode] at e13
  rw [← hc] at e31 e12 e16 e8
  rw [← hk] at e34 e16
  rw [hback] at e15 e33
  rw [show fromL (codeAt S k) = r by rw [hk, hc]; exact h.at] at e18
  have hrng : rngI [.v (.int 1), .v (.int S)] = some ((List.range (c.length - 1)).map (up 1)) := by
    rw [rng_2 big1 (big62_of (by omega) (by omega)), rng_up (m := c.length - 1) (by omega)]
  have efl : lcR cfg (den cfg prog (n + 6)) (.x 4) (.nm 4) (.so (.cmp .gt (.ix (.x 2) (.bin .sub (.x 4) (.k (.int 1)))) (.ix (.x 2) (.x 4)))) [.v (T r), .v (.int k), .v (T c), .v (.int S), .no] ((List.range (c.length - 1)).map (up 1)) w = .ok (.n ((fallsL r).map .int)) w := by
    rw [lcR_pure (g := fun i : Nat => if decide (ix c (i + 1) < ix c i) = true then some (.int (1 + (i : Int))) else none) rfl (by simp; omega) (fun i hi => by
      have hi := List.mem_range.mp hi
      have e1 : atD (c.map .int) (1 + (i : Int) - 1) = some (.int (ix c i)) := atD_ix (by omega) (by omega)
      have e2 : atD (c.map .int) (1 + (i : Int)) = some (.int (ix c (i + 1))) := atD_ix (by omega) (by omega)
      rw [lcTurn_eq]
      simp -implicitDefEqProofs [up, e1, e2]), fm_filter]
    rw [← falls_code r, ← hc, fallsL, List.map_map]
    rfl
  have hsum : bi .sum [.v (T c)] = some (.v (.int c.sum)) := sum_T
  have hro1 : ∀ a : D, reord [0] [a] = some [a] := fun _ => rfl
  have hro2 : ∀ a b : D, reord [1, 0] [a, b] = some [b, a] := fun _ _ => rfl
  rw [den_s (fd := ⟨1, 5, b_law_right⟩) rfl rfl (by decide)]
  show (exSs cfg (den cfg prog (n + 6)) b_law_right [.v (T r), .no, .no, .no, .no] w).bind outR = _
  unfold b_law_right
  rw [step (ρ' := [.v (T r), .no, .v (T c), .v (.int S), .no]) (w' := w) (by simp -implicitDefEqProofs [e31, hlen, tupR, sizeLine_of]) rfl]
  rw [step (ρ' := [.v (T r), .v (.int k), .v (T c), .v (.int S), .no]) (w' := w) (by simp -implicitDefEqProofs [e34]) rfl]
  rw [step (ρ' := [.v (T r), .v (.int k), .v (T c), .v (.int S), .no]) (w' := w) (by simp -implicitDefEqProofs [e12, e15, lstR, sizeLine_of, hro1, r1, r2]) rfl]
  rw [step (ρ' := [.v (T r), .v (.int k), .v (T c), .v (.int S), .no]) (w' := w) (by simp -implicitDefEqProofs [e16, e18, lstR, sizeLine_of, hro1, hro2, r3, r2]) rfl]
  rw [step (ρ' := [.v (T r), .v (.int k), .v (T c), .v (.int S), .no]) (w' := w) (by simp -implicitDefEqProofs [e8, e10, hsum, hrng, efl, T_eq, fold_T]) rfl]
  simp -implicitDefEqProofs [e13, e33, T_eq, hro1]
end K03
set_option Elab.async false
set_option linter.all false
set_option maxRecDepth 100000
set_option maxHeartbeats 1000000
namespace K03
open PySem VM VM.R
variable {n : Nat} {w : Dw}
theorem code_T {d : D} (h : isCode d = true) : ∃ c, d = T c := by
  cases d <;> first | (cases h; done) | skip
  rename_i ds
  have hn : (ds.filter fun d => !isI d) = [] := by
    rw [List.filter_eq_nil_iff]
    intro d hd
    unfold isCode at h
    simp only [Bool.and_eq_true, List.all_eq_true, List.mem_range] at h
    obtain ⟨i, hi, rfl⟩ := List.getElem_of_mem hd
    have := h.2 i hi
    rw [List.getD_eq_getElem?_getD, List.getElem?_eq_getElem hi] at this
    revert this
    show btw (ds[i]) _ _ = true → _
    cases ds[i] <;> intro z <;> first | (cases z; done) | (show ¬(!true) = true; decide)
  obtain ⟨c, rfl⟩ := ints_I hn
  exact ⟨c, rfl⟩
def z9 : List Int := List.replicate 9 0
def nearA (c : List Int) (A B : List D) (i : Nat) : List D := [.tup (A ++ [.int (ix c i + 1)] ++ B), .tup (A ++ [.int (ix c i - 1)] ++ B), T (c ++ [0]), T (0 :: c), .tup (c.map .int).tail, L c]
def nearB (c : List Int) (A B : List D) : List D := [.tup (A ++ [.non] ++ B), .tup [], .non, .int 5, .tup [.bl true], .tup [.str "0"], T z9, T c.reverse, .tup (.int ((c.length : Int) - 1) :: (c.map .int).tail)]
theorem plA_tup {ds : List D} (h : ∀ d ∈ ds, pl d = true) (hl : ds.length ≤ 1000) : plA (.tup ds) = true := by
  show (ds.all pl && decide (ds.length ≤ 1000)) = true
  rw [decide_eq_true hl, Bool.and_true, List.all_eq_true]
  exact h
theorem near_pl {c : List Int} {A B : List D} {i : Nat} (hA : ∀ d ∈ A, pl d = true) (hB : ∀ d ∈ B, pl d = true) (lA : A.length ≤ 100) (lB : B.length ≤ 100) (lc : c.length ≤ 100) : ∀ d ∈ nearA c A B i ++ nearB c A B, plA d = true := by
  have pI : ∀ l : List Int, ∀ z ∈ l.map D.int, pl z = true := fun l z hz => by obtain ⟨i, _, rfl⟩ := List.mem_map.mp hz; rfl
  have pAB : ∀ x : D, pl x = true → plA (.tup (A ++ [x] ++ B)) = true := fun x hx => plA_tup (fun d hd => by
    rcases List.mem_append.mp hd with q | q
    · rcases List.mem_append.mp q with q | q
      · exact hA d q
      · rw [List.mem_singleton.mp q]; exact hx
    · exact hB d q) (by rw [List.length_append, List.length_append, List.length_singleton]; omega)
  intro d hd
  simp only [nearA, nearB, List.mem_append, List.mem_cons, List.not_mem_nil, or_false] at hd
  rcases hd with (rfl | rfl | rfl | rfl | rfl | rfl) | (rfl | rfl | rfl | rfl | rfl | rfl | rfl | rfl | rfl)
  · exact pAB _ rfl
  · exact pAB _ rfl
  · exact plT (by simp; omega)
  · exact plT (by simp; omega)
  · exact plA_tup (fun d hd => pI c d (List.mem_of_mem_tail hd)) (by rw [List.length_tail, List.length_map]; omega)
  · rfl
  · exact pAB _ rfl
  · rfl
  · rfl
  · rfl
  · rfl
  · rfl
  · rfl
  · exact plT (by simp; omega)
  · exact plA_tup (fun d hd => by
      rcases List.mem_cons.mp hd with rfl | hd
      · rfl
      · exact pI c d (List.mem_of_mem_tail hd)) (by rw [List.length_cons, List.length_tail, List.length_map]; omega)
def nearB' : Ss := (.cons (.set (.nm 5) (.call 32 (.cons false (.x 4) .nil))) (.cons (.ite (.boo false (.cons false (.not (.call 24 (.cons false (.call 13 (.cons false (.x 4) .nil)) (.cons false (.x 5) .nil)))) (.cons false (.boo true (.cons false (.not (.x 5)) (.cons false (.cmp .ne (.call 30 (.cons false (.caught (.call 15 (.cons false (.x 4) .nil))) .nil)) (.k (.str "code"))) .nil))) .nil))) (.cons (.ret (.k (.bl false))) .nil) .nil) (.cons (.ite (.boo true (.cons false (.x 5) (.cons false (.cmp .ne (.call 15 (.cons false (.x 4) .nil)) (.call 33 (.cons false (.x 4) .nil))) .nil))) (.cons (.ret (.k (.bl false))) .nil) .nil) .nil)))
theorem near_turn {a b e : Sl} {i : Nat} {l : List D} {d : D} {x : Sl} (h : plA d = true) : exSs cfg (den cfg prog (n + 4)) nearB' [a, b, .v (.int i), .v (.lst l), .v d, x] w = .ok ([a, b, .v (.int i), .v (.lst l), .v d, .v (.bl (isCode d))], .nx) w := by
  have e32 := s32 (n := n + 2) (w := w) h
  have e13 := s13 (n := n + 1) (w := w) h
  cases q : isCode d with
  | false =>
    rw [q] at e32 e13
    have e15 := s15f (n := n) (w := w) h q
    simp -implicitDefEqProofs [nearB', e32, e13, s24, e15, s30c]
  | true =>
    rw [q] at e32 e13
    obtain ⟨c, rfl⟩ := code_T q
    obtain ⟨h1, h8, v⟩ := isCode_len q
    have e15 := s15 (n := n) (w := w) q
    have e33 := s33 (n := n + 3) (w := w) (c := c) (by omega) v
    simp -implicitDefEqProofs [nearB', e32, e13, s24, e15, e33, T_eq]
theorem s38 (h : DOk w) {c : List Int} (h1 : 1 ≤ c.length) (h8 : c.length ≤ 8) : ∃ w', DOk w' ∧ den cfg prog (n + 5) 38 [.dr, T c] w = .ok (.v (.bl true)) w' := by
  obtain ⟨i, w1, hi, d1, e1⟩ := s21 (n := n + 2) h (a := (c.length : Int)) (by omega) (by omega)
  refine ⟨w1, d1, ?_⟩
  have hi' : i < c.length := by omega
  obtain ⟨A, hA⟩ : ∃ A, A = (c.map D.int).take i := ⟨_, rfl⟩
  obtain ⟨B, hB⟩ : ∃ B, B = (c.map D.int).drop (i + 1) := ⟨_, rfl⟩
  have pI : ∀ l : List Int, ∀ z ∈ l.map D.int, pl z = true := fun l z hz => by obtain ⟨i, _, rfl⟩ := List.mem_map.mp hz; rfl
  have lA : A.length ≤ 8 := by rw [hA, List.length_take, List.length_map]; omega
  have lB : B.length ≤ 8 := by rw [hB, List.length_drop, List.length_map]; omega
  have pl0 := near_pl (c := c) (i := i) (A := A) (B := B) (fun d hd => pI c d (List.mem_of_mem_take (hA ▸ hd))) (fun d hd => pI c d (List.mem_of_mem_drop (hB ▸ hd))) (by omega) (by omega) (by omega)
  have cA : cutD (c.map .int) none (some (i : Int)) = A := by rw [hA]; exact cut_to _ rfl
  have cB : cutD (c.map .int) (some ((i : Int) + 1)) none = B := by rw [hB]; exact cut_from _ (by omega)
  have ax : atD (c.map .int) (i : Int) = some (.int (ix c i)) := atD_ix rfl hi'
  have a1 : ∀ x : D, opB .add (.v (.tup A)) (.v (.tup [x])) = some (.v (.tup (A ++ [x]))) := fun x => opB_at (by rw [List.length_singleton]; exact sizeLine_of (by omega))
  have a2 : ∀ x : D, opB .add (.v (.tup (A ++ [x]))) (.v (.tup B)) = some (.v (.tup (A ++ [x] ++ B))) := fun x => opB_at (by rw [List.length_append, List.length_singleton]; exact sizeLine_of (by omega))
  have a3 : opB .add (.v (T c)) (.v (.tup [.int 0])) = some (.v (T (c ++ [0]))) := T_add (b := [0]) (by simp; omega)
  have a4 : opB .add (.v (.tup [.int 0])) (.v (T c)) = some (.v (T (0 :: c))) := T_add (a := [0]) (by simp; omega)
  have a5 : opB .mul (.v (.tup [.int 0])) (.v (.int 9)) = some (.v (T z9)) := T_rep (M := 9) rfl (by omega)
  have a6 : opB .add (.v (.tup [.int ((c.length : Int) - 1)])) (.v (.tup (c.map .int).tail)) = some (.v (.tup (.int ((c.length : Int) - 1) :: (c.map .int).tail))) := opB_at (by rw [List.length_singleton, List.length_tail, List.length_map]; exact sizeLine_of (by omega))
  have a7 : opB .add (.v (.lst (nearA c A B i))) (.n (nearB c A B)) = some (.n (nearA c A B i ++ nearB c A B)) := opB_al rfl rfl (sizeLine_of (by show 6 + 9 ≤ _; omega))
  have a8 : ∀ u : RV, u = .n (nearB c A B) → opB .add (.v (.lst (nearA c A B i))) u = some (.n (nearA c A B i ++ nearB c A B)) := fun u hu => by rw [hu]; exact a7
  rw [den_s (fd := ⟨2, 6, b_law_near_right⟩) rfl rfl (by decide)]
  show (exSs cfg (den cfg prog (n + 4)) b_law_near_right [.v .dr, .v (T c), .no, .no, .no, .no] w).bind outR = _
  unfold b_law_near_right
  rw [step (ρ' := [.v .dr, .v (T c), .v (.int i), .no, .no, .no]) (w' := w1) (by simp -implicitDefEqProofs [e1]) rfl]
  rw [step (ρ' := [.v .dr, .v (T c), .v (.int i), .own (nearA c A B i), .no, .no]) (w' := w1) (by
    simp -implicitDefEqProofs [lstR, tupR, sizeLine_of, cA, cB, ax, a1, a2, a3, a4, cut1, nearA, -List.append_assoc, -List.map_tail]) rfl]
  rw [step (ρ' := [.v .dr, .v (T c), .v (.int i), .v (.lst (nearA c A B i)), .no, .no]) (w' := w1) (by simp -implicitDefEqProofs [frzE]) rfl]
  rw [step (ρ' := [.v .dr, .v (T c), .v (.int i), .own (nearA c A B i ++ nearB c A B), .no, .no]) (w' := w1) (by
    simp -implicitDefEqProofs [lstR, tupR, sizeLine_of, cA, cB, a1, a2, a5, a6, cut1, -List.append_assoc, -List.map_tail]
    rw [a8 (.n [.tup (A ++ [D.non] ++ B), .tup [], .non, .int 5, .tup [.bl true], .tup [.str "0"], T z9, T c.reverse, .tup (.int ((c.length : Int) - 1) :: (c.map D.int).tail)]) rfl]
    simp -implicitDefEqProofs) rfl]
  rw [step (ρ' := [.v .dr, .v (T c), .v (.int i), .v (.lst (nearA c A B i ++ nearB c A B)), .no, .no]) (w' := w1) (by simp -implicitDefEqProofs [frzE]) rfl]
  obtain ⟨ρ', w', e3, rfl, _, x4, x5, rfl⟩ := forL_inv (p := .nm 4) (body := exSs cfg (den cfg prog (n + 4)) nearB')
    (fun l ρ w' => w' = w1 ∧ (∀ d ∈ l, plA d = true) ∧ ∃ x4 x5 : Sl, ρ = [.v .dr, .v (T c), .v (.int i), .v (.lst (nearA c A B i ++ nearB c A B)), x4, x5]) (by
      rintro d r ρ w' ⟨rfl, hp, x4, x5, rfl⟩
      exact ⟨_, _, w', rfl, .inl (near_turn (e := .no) (hp d List.mem_cons_self)), rfl, fun d hd => hp d (List.mem_cons_of_mem _ hd), _, _, rfl⟩) (nearA c A B i ++ nearB c A B) [.v .dr, .v (T c), .v (.int i), .v (.lst (nearA c A B i ++ nearB c A B)), .no, .no] w1 ⟨rfl, pl0, _, _, rfl⟩
  rw [step (s := .forr _ _ _) (ρ' := [.v .dr, .v (T c), .v (.int i), .v (.lst (nearA c A B i ++ nearB c A B)), x4, x5]) (w' := w') (by
    rw [ex_for]
    have es : evS cfg (den cfg prog (n + 4)) (.e (.x 3)) [.v .dr, .v (T c), .v (.int i), .v (.lst (nearA c A B i ++ nearB c A B)), .no, .no] w' = .ok (nearA c A B i ++ nearB c A B) w' := by simp -implicitDefEqProofs
    rw [es, Res.bind_ok]
    exact e3) rfl]
  simp -implicitDefEqProofs
end K03
set_option Elab.async false
set_option linter.all false
set_option maxRecDepth 100000
set_option maxHeartbeats 1000000
namespace K03
open PySem VM VM.R
variable {n : Nat} {w : Dw}
def numB : Ss := (.cons (.ite (.cmp .ne (.call 34 (.cons false (.call 31 (.cons false (.call 18 (.cons false (.x 8) (.cons false (.x 5) .nil))) .nil)) .nil)) (.x 5)) (.cons (.ret (.k (.bl false))) .nil) .nil) .nil)
def wrkB : Ss := (.cons (.ite (.boo true (.cons false (.not (.call 28 (.cons false (.x 9) .nil))) (.cons false (.cmp .ne (.call 30 (.cons false (.caught (.callx 7 (.cons false (.x 9) .nil))) .nil)) (.k (.str "row"))) .nil))) (.cons (.ret (.k (.bl false))) .nil) .nil) .nil)
def lawB : Ss := (.cons (.set (.nm 3) (.call 26 (.cons false (.x 1) (.cons false (.k (.int 8)) .nil)))) (.cons (.set (.tp [8, 9]) (.tup (.cons false (.bi .len (.cons false (.x 3) .nil)) (.cons false (.call 29 (.cons false (.x 1) (.cons false (.x 3) .nil))) .nil)))) (.cons (.ite (.boo false (.cons false (.not (.call 36 (.cons false (.x 3) .nil))) (.cons false (.not (.call 37 (.cons false (.x 3) (.cons false (.call 27 (.cons false (.x 1) (.cons false (.x 3) .nil))) .nil)))) (.cons false (.not (.call 38 (.cons false (.x 1) (.cons false (.call 31 (.cons false (.x 3) .nil)) .nil)))) .nil)))) (.cons (.ret (.k (.bl false))) .nil) .nil) (.cons (.set (.nm 4) (.call 35 (.cons false (.x 8) .nil))) (.cons (.forr (.nm 5) (.e (.lst (.cons false (.k (.int 0)) (.cons false (.bin .sub (.x 4) (.k (.int 1))) (.cons false (.call 21 (.cons false (.x 1) (.cons false (.x 4) .nil))) .nil))))) (.cons (.ite (.cmp .ne (.call 34 (.cons false (.call 31 (.cons false (.call 18 (.cons false (.x 8) (.cons false (.x 5) .nil))) .nil)) .nil)) (.x 5)) (.cons (.ret (.k (.bl false))) .nil) .nil) .nil)) (.cons (.set (.tp [10, 11]) (.tup (.cons false (.call 22 (.cons false (.x 1) (.cons false (.lst (.cons false (.k (.int 0)) (.cons false (.k (.int 9)) (.cons false (.neg (.k (.int 1))) (.cons false (.k .non) (.cons false (.k (.bl true)) (.cons false (.k (.str "3")) .nil))))))) .nil))) (.cons false (.call 22 (.cons false (.x 1) (.cons false (.lst (.cons false (.neg (.k (.int 1))) (.cons false (.x 4) (.cons false (.bin .add (.x 4) (.k (.int 5))) (.cons false (.k .non) (.cons false (.k (.bl true)) (.cons false (.k (.str "0")) .nil))))))) .nil))) .nil)))) (.cons (.set (.nm 6) (.lst (.cons false (.call 30 (.cons false (.caught (.call 18 (.cons false (.x 10) (.cons false (.x 11) .nil)))) .nil)) .nil))) (.cons (.app 6 (.call 30 (.cons false (.caught (.call 18 (.cons false (.x 8) (.cons false (.x 11) .nil)))) .nil))) (.cons (.ite (.cmp .ne (.x 6) (.lst (.cons false (.k (.str "number 'seats'")) (.cons false (.k (.str "number 'number'")) .nil)))) (.cons (.ret (.k (.bl false))) .nil) .nil) (.cons (.forr (.nm 7) (.e (.lst (.cons false (.k (.fn 12)) (.cons false (.k (.fn 16)) .nil)))) (.cons (.ite (.boo true (.cons false (.not (.call 28 (.cons false (.x 9) .nil))) (.cons false (.cmp .ne (.call 30 (.cons false (.caught (.callx 7 (.cons false (.x 9) .nil))) .nil)) (.k (.str "row"))) .nil))) (.cons (.ret (.k (.bl false))) .nil) .nil) .nil)) .nil))))))))))
theorem num_turn {a0 x1 x2 x3 x4 x6 x7 x9 x10 x11 : Sl} {S : Nat} {k : Int} (h1 : 1 ≤ S) (h8 : S ≤ 8) (k0 : 0 ≤ k) (k1 : k < fac S) : exSs cfg (den cfg prog (n + 7)) numB [a0, x1, x2, x3, x4, .v (.int k), x6, x7, .v (.int S), x9, x10, x11] w = .ok ([a0, x1, x2, x3, x4, .v (.int k), x6, x7, .v (.int S), x9, x10, x11], .nx) w := by
  have e18 := s18 (n := n + 1) (w := w) h1 h8 k0 k1
  have hl : (fromL (codeAt S k)).length = S := by unfold fromL; rw [pops_len, codeAt_len]
  have e31 := s31 (n := n + 6) (w := w) (r := fromL (codeAt S k)) (by omega)
  rw [code_from (dg_valid S k)] at e31
  have e34 := s34 (n := n + 6) (w := w) (c := codeAt S k) (by rw [codeAt_len]; omega)
  rw [num_of_at k0 k1] at e34
  simp -implicitDefEqProofs [numB, e18, e31, e34]
theorem wrk_turn {a0 x1 x2 x3 x4 x5 x6 x8 x10 x11 : Sl} {d : D} {q : Nat} (hq : q = 12 ∨ q = 16) (h : isRow d = false) (hp : plA d = true) : exSs cfg (den cfg prog (n + 7)) wrkB [a0, x1, x2, x3, x4, x5, x6, .v (.fn q), x8, .v d, x10, x11] w = .ok ([a0, x1, x2, x3, x4, x5, x6, .v (.fn q), x8, .v d, x10, x11], .nx) w := by
  obtain ⟨b, e28⟩ := s28 (n := n + 5) (w := w) hp
  have e12 := s12f (n := n + 1) (w := w) hp h
  have e16 := s16f (n := n + 1) (w := w) hp h
  cases b with
  | true => simp -implicitDefEqProofs [wrkB, e28]
  | false => rcases hq with rfl | rfl <;> simp -implicitDefEqProofs [wrkB, e28, e12, e16, s30r]
theorem word_s : wordN "seats" = "number 'seats'" := by decide +kernel
theorem word_n : wordN "number" = "number 'number'" := by decide +kernel
theorem two_words : eqR (.m 6 [.str "number 'seats'", .str "number 'number'"]) (.n [.str "number 'seats'", .str "number 'number'"]) = some true := by decide +kernel
theorem law_turn {a0 d2 x3 x4 x5 x6 x7 x8 x9 x10 x11 : Sl} (h : DOk w) : ∃ (y3 y4 y5 y6 y7 y8 y9 y10 y11 : Sl) (w' : Dw), DOk w' ∧ exSs cfg (den cfg prog (n + 7)) lawB [a0, .v .dr, d2, x3, x4, x5, x6, x7, x8, x9, x10, x11] w = .ok ([a0, .v .dr, d2, y3, y4, y5, y6, y7, y8, y9, y10, y11], .nx) w' := by
  obtain ⟨S, r, w1, hr, d1, e26⟩ := s26 (n := n + 3) h
  obtain ⟨nd, w2, hnd, dk2, e29⟩ := s29 (n := n + 3) d1 hr
  obtain ⟨nr, np⟩ := no_rows hr hnd
  have hlen := hr.len
  have hlo := hr.lo
  have hhi := hr.hi
  have e36 := s36 (n := n) (w := w2) hr
  obtain ⟨p, w3, hp, d3, e27⟩ := s27 (n := n + 3) dk2 (r := r) (by omega) (by omega)
  have hpr : Rw S p := ⟨hlo, hhi, hp.trans hr.p⟩
  have e37 := s37 (n := n) (w := w3) hr hpr
  have e31 := s31 (n := n + 6) (w := w3) (r := r) (by omega)
  obtain ⟨w4, d4, e38⟩ := s38 (n := n + 2) d3 (c := codeL r) (by rw [codeL_len]; omega) (by rw [codeL_len]; omega)
  have e35 := s35 (n := n + 6) (w := w4) hlo (by omega : S ≤ 1000)
  have fp := fac_pos S
  have fl := fac_le S hhi
  obtain ⟨t, w5, ht, d5, e21⟩ := s21 (n := n + 5) d4 (a := fac S) fp (by omega)
  obtain ⟨od, w6, hod, d6, e22⟩ := s22 (n := n + 4) d5 (ds := [.int 0, .int 9, .int (-1), .non, .bl true, .str "3"]) (by simp) (by simp)
  have po : pl od = true ∧ btw od 1 8 = false := by
    simp only [List.mem_cons, List.not_mem_nil, or_false] at hod
    rcases hod with rfl | rfl | rfl | rfl | rfl | rfl <;> exact ⟨rfl, rfl⟩
  obtain ⟨bd, w7, hbd, d7, e22b⟩ := s22 (n := n + 4) d6 (ds := [.int (-1), .int (fac S), .int (fac S + 5), .non, .bl true, .str "0"]) (by simp) (by simp)
  have pb : pl bd = true ∧ btw bd 0 (fac S - 1) = false := by
    simp only [List.mem_cons, List.not_mem_nil, or_false] at hbd
    rcases hbd with rfl | rfl | rfl | rfl | rfl | rfl
    · exact ⟨rfl, btw_no (.inl (by omega))⟩
    · exact ⟨rfl, btw_no (.inr (by omega))⟩
    · exact ⟨rfl, btw_no (.inr (by omega))⟩
    · exact ⟨rfl, rfl⟩
    · exact ⟨rfl, rfl⟩
    · exact ⟨rfl, rfl⟩
  have f18s := s18s (n := n + 1) (w := w7) (e := bd) po.1 po.2
  have f18n := s18n (n := n + 1) (w := w7) hlo hhi pb.1 pb.2
  have g1 := s30n (n := n + 6) (w := w7) (p := "seats") (by decide +kernel) (by decide +kernel)
  have g2 := s30n (n := n + 6) (w := w7) (p := "number") (by decide +kernel) (by decide +kernel)
  rw [word_s] at g1
  rw [word_n] at g2
  -- the loop over numbers
  obtain ⟨ρ5, w5', l5, rfl, _, y5, rfl⟩ := forL_inv (p := .nm 5) (body := exSs cfg (den cfg prog (n + 7)) numB)
    (fun l ρ w' => w' = w5 ∧ (∀ d ∈ l, ∃ k : Int, d = .int k ∧ 0 ≤ k ∧ k < fac S) ∧ ∃ y5 : Sl, ρ = [a0, .v .dr, d2, .v (T r), .v (.int (fac S)), y5, x6, x7, .v (.int S), .v nd, x10, x11]) (by
      rintro d l ρ w' ⟨rfl, hl, y5, rfl⟩
      obtain ⟨k, rfl, k0, k1⟩ := hl d List.mem_cons_self
      exact ⟨_, _, w', rfl, .inl (num_turn hlo hhi k0 k1), rfl, fun d hd => hl d (List.mem_cons_of_mem _ hd), _, rfl⟩) [.int 0, .int (fac S - 1), .int t] [a0, .v .dr, d2, .v (T r), .v (.int (fac S)), x5, x6, x7, .v (.int S), .v nd, x10, x11] w5 ⟨rfl, fun d hd => by
        simp only [List.mem_cons, List.not_mem_nil, or_false] at hd
        rcases hd with rfl | rfl | rfl
        · exact ⟨_, rfl, by omega, by omega⟩
        · exact ⟨_, rfl, by omega, by omega⟩
        · exact ⟨_, rfl, by omega, by omega⟩, _, rfl⟩
  -- the loop over what works
  obtain ⟨ρ7, w7', l7, rfl, _, y7, rfl⟩ := forL_inv (p := .nm 7) (body := exSs cfg (den cfg prog (n + 7)) wrkB)
    (fun l ρ w' => w' = w7 ∧ (∀ d ∈ l, ∃ q : Nat, d = .fn q ∧ (q = 12 ∨ q = 16)) ∧ ∃ y7 : Sl, ρ = [a0, .v .dr, d2, .v (T r), .v (.int (fac S)), y5, .own [.str "number 'seats'", .str "number 'number'"], y7, .v (.int S), .v nd, .v od, .v bd]) (by
      rintro d l ρ w' ⟨rfl, hl, y7, rfl⟩
      obtain ⟨q, rfl, hq⟩ := hl d List.mem_cons_self
      exact ⟨_, _, w', rfl, .inl (wrk_turn hq nr np), rfl, fun d hd => hl d (List.mem_cons_of_mem _ hd), _, rfl⟩) [.fn 12, .fn 16] [a0, .v .dr, d2, .v (T r), .v (.int (fac S)), y5, .own [.str "number 'seats'", .str "number 'number'"], x7, .v (.int S), .v nd, .v od, .v bd] w7 ⟨rfl, fun d hd => by
        simp only [List.mem_cons, List.not_mem_nil, or_false] at hd
        rcases hd with rfl | rfl
        · exact ⟨_, rfl, .inl rfl⟩
        · exact ⟨_, rfl, .inr rfl⟩, _, rfl⟩
  refine ⟨.v (T r), .v (.int (fac S)), y5, .own [.str "number 'seats'", .str "number 'number'"], y7, .v (.int S), .v nd, .v od, .v bd, w7', d7, ?_⟩
  unfold lawB
  refine step (ρ' := [a0, .v .dr, d2, .v (T r), x4, x5, x6, x7, x8, x9, x10, x11]) (w' := w1) ?_ ?_
  · simp -implicitDefEqProofs [e26]
  refine step (ρ' := [a0, .v .dr, d2, .v (T r), x4, x5, x6, x7, .v (.int S), .v nd, x10, x11]) (w' := w2) ?_ ?_
  · simp -implicitDefEqProofs [e29, hlen, tupR, sizeLine_of]
  refine step (ρ' := [a0, .v .dr, d2, .v (T r), x4, x5, x6, x7, .v (.int S), .v nd, x10, x11]) (w' := w4) ?_ ?_
  · simp -implicitDefEqProofs [e36, e27, e37, e31, e38]
  refine step (ρ' := [a0, .v .dr, d2, .v (T r), .v (.int (fac S)), x5, x6, x7, .v (.int S), .v nd, x10, x11]) (w' := w4) ?_ ?_
  · simp -implicitDefEqProofs [e35]
  refine step (ρ' := [a0, .v .dr, d2, .v (T r), .v (.int (fac S)), y5, x6, x7, .v (.int S), .v nd, x10, x11]) (w' := w5') ?_ ?_
  · have es : evS cfg (den cfg prog (n + 7)) (.e (.lst (.cons false (.k (.int 0)) (.cons false (.bin .sub (.x 4) (.k (.int 1))) (.cons false (.call 21 (.cons false (.x 1) (.cons false (.x 4) .nil))) .nil))))) [a0, .v .dr, d2, .v (T r), .v (.int (fac S)), x5, x6, x7, .v (.int S), .v nd, x10, x11] w4 = .ok [.int 0, .int (fac S - 1), .int t] w5' := by
      simp -implicitDefEqProofs [e21, lstR, sizeLine_of]
    rw [ex_for, es, Res.bind_ok]
    exact l5
  refine step (ρ' := [a0, .v .dr, d2, .v (T r), .v (.int (fac S)), y5, x6, x7, .v (.int S), .v nd, .v od, .v bd]) (w' := w7') ?_ ?_
  · simp -implicitDefEqProofs [e22, e22b, lstR, tupR, sizeLine_of]
  refine step (ρ' := [a0, .v .dr, d2, .v (T r), .v (.int (fac S)), y5, .own [.str "number 'seats'"], x7, .v (.int S), .v nd, .v od, .v bd]) (w' := w7') ?_ ?_
  · simp -implicitDefEqProofs [f18s, g1, lstR, sizeLine_of]
  refine step (ρ' := [a0, .v .dr, d2, .v (T r), .v (.int (fac S)), y5, .own [.str "number 'seats'", .str "number 'number'"], x7, .v (.int S), .v nd, .v od, .v bd]) (w' := w7') ?_ ?_
  · have ha : ∀ ρ : En, appR 6 ρ [.str "number 'seats'"] (.v (.str "number 'number'")) = some (ρ.set 6 (.own [.str "number 'seats'", .str "number 'number'"])) := fun ρ => by
      show (if ([.str "number 'seats'"] : List D).length < sizeLine then some (ρ.set 6 (.own ([.str "number 'seats'"] ++ [.str "number 'number'"]))) else none) = _
      rw [if_pos (show ([.str "number 'seats'"] : List D).length < sizeLine from sizeLine_of (n := 2) (by decide))]
      rfl
    simp -implicitDefEqProofs [f18n, g2, ha]
  refine step (ρ' := [a0, .v .dr, d2, .v (T r), .v (.int (fac S)), y5, .own [.str "number 'seats'", .str "number 'number'"], x7, .v (.int S), .v nd, .v od, .v bd]) (w' := w7') ?_ ?_
  · simp -implicitDefEqProofs [two_words, lstR, sizeLine_of]
  refine step (ρ' := [a0, .v .dr, d2, .v (T r), .v (.int (fac S)), y5, .own [.str "number 'seats'", .str "number 'number'"], y7, .v (.int S), .v nd, .v od, .v bd]) (w' := w7') ?_ ?_
  · have es : evS cfg (den cfg prog (n + 7)) (.e (.lst (.cons false (.k (.fn 12)) (.cons false (.k (.fn 16)) .nil)))) [a0, .v .dr, d2, .v (T r), .v (.int (fac S)), y5, .own [.str "number 'seats'", .str "number 'number'"], x7, .v (.int S), .v nd, .v od, .v bd] w7' = .ok [.fn 12, .fn 16] w7' := by
      simp -implicitDefEqProofs [lstR, sizeLine_of]
    rw [ex_for, es, Res.bind_ok]
    exact l7
  rfl
theorem rw312 : isRow (T [3, 1, 2]) = true := by decide +kernel
theorem n312 : numR 0 (codeL [3, 1, 2]) = 4 := by decide +kernel
theorem law_ok {ns : List Int} (hl : ns.length ≤ 1000) : ∃ w', den cfg prog (n + 8) 39 [.scr (ns.map .int)] w00 = .ok (.v (.bl true)) w' := by
  obtain ⟨w1, d1, e19⟩ := s19 (n := n + 6) (ns := ns) hl
  have e16 := fun w => s16 (n := n + 1) (w := w) (r := [3, 1, 2]) (by decide) rw312
  have hm : ∃ l, evS cfg (den cfg prog (n + 7)) (.rng (.cons false (.bin .add (.k (.int 3)) (.bi .min (.cons false (.bi .len (.cons false (.x 0) .nil)) (.cons false (.k (.int 9)) .nil)))) .nil)) [.v (.scr (ns.map .int)), .v .dr, .no, .no, .no, .no, .no, .no, .no, .no, .no, .no] w1 = .ok l w1 := by
    by_cases q : (9 : Int) < ns.length
    · obtain ⟨l, hl'⟩ : ∃ l, rngI [.v (.int 12)] = some l := ⟨_, rng_1 (big62_of (by omega) (by omega))⟩
      exact ⟨l, by simp -implicitDefEqProofs [q, hl']⟩
    · obtain ⟨l, hl'⟩ : ∃ l, rngI [.v (.int (3 + (ns.length : Int)))] = some l := ⟨_, rng_1 (big62_of (by omega) (by omega))⟩
      exact ⟨l, by simp -implicitDefEqProofs [q, hl']⟩
  obtain ⟨l, hm⟩ := hm
  obtain ⟨ρ', w', e2, d', x2, x3, x4, x5, x6, x7, x8, x9, x10, x11, rfl⟩ := forL_inv (p := .nm 2) (body := exSs cfg (den cfg prog (n + 7)) lawB)
    (fun l ρ w' => DOk w' ∧ ∃ x2 x3 x4 x5 x6 x7 x8 x9 x10 x11 : Sl, ρ = [.v (.scr (ns.map .int)), .v .dr, x2, x3, x4, x5, x6, x7, x8, x9, x10, x11]) (by
      rintro d r ρ w' ⟨hd, x2, x3, x4, x5, x6, x7, x8, x9, x10, x11, rfl⟩
      obtain ⟨y3, y4, y5, y6, y7, y8, y9, y10, y11, w2, d2, e⟩ := law_turn (n := n) (a0 := .v (.scr (ns.map .int))) (d2 := .v d) (x3 := x3) (x4 := x4) (x5 := x5) (x6 := x6) (x7 := x7) (x8 := x8) (x9 := x9) (x10 := x10) (x11 := x11) hd
      exact ⟨_, _, w2, rfl, .inl e, d2, _, _, _, _, _, _, _, _, _, _, rfl⟩) l [.v (.scr (ns.map .int)), .v .dr, .no, .no, .no, .no, .no, .no, .no, .no, .no, .no] w1 ⟨d1, _, _, _, _, _, _, _, _, _, _, rfl⟩
  refine ⟨w', ?_⟩
  rw [den_s (fd := ⟨1, 12, blaw⟩) rfl rfl (by decide)]
  show (exSs cfg (den cfg prog (n + 7)) blaw [.v (.scr (ns.map .int)), .no, .no, .no, .no, .no, .no, .no, .no, .no, .no, .no] w00).bind outR = _
  unfold blaw
  rw [step (ρ' := [.v (.scr (ns.map .int)), .v .dr, .no, .no, .no, .no, .no, .no, .no, .no, .no, .no]) (w' := w1) (by simp -implicitDefEqProofs [e19]) rfl]
  rw [step (s := .forr _ _ _) (ρ' := [.v (.scr (ns.map .int)), .v .dr, x2, x3, x4, x5, x6, x7, x8, x9, x10, x11]) (w' := w') (by rw [ex_for, hm, Res.bind_ok]; exact e2) rfl]
  have e3 := e16 w'
  rw [n312] at e3
  have h3 : D.tup [.int 3, .int 1, .int 2] = T [3, 1, 2] := rfl
  simp -implicitDefEqProofs [tupR, sizeLine_of, h3, e3]
end K03
set_option Elab.async false
set_option linter.all false
set_option maxRecDepth 100000
set_option maxHeartbeats 4000000
namespace K03
open PySem PySem.Spec L2 LamX VM PyProof.Rows
def topS (i : Nat) : Stmt := PySem.Challenge.pw_leastswaps_k03_whole_codes_and_numbers.main.body.getD i (.Pass ⟨0, 0, 0, 0⟩)
def CSL : List (Addr × Addr) := [(329, 325), (336, 332)]
def TTL : List (Addr × Str) := [(325, ("_law_near_right.<locals>.<lambda>" : Str)), (332, ("law.<locals>.<lambda>" : Str))]
theorem sc0 : FnScope Nis_number ["thing"] (defScope (topS 6)) := ⟨rfl, rfl, rfl, by decide +kernel, rfl, by decide +kernel, by decide +kernel⟩
theorem ck0 : chkSs tab Nis_number bis_number ⟨false, false, defScope (topS 6)⟩ (defBody (topS 6)) = true := by decide +kernel
theorem mk0 {Z : Zed} {cd : Value} (F : FnAt Z.K Z.mg "is_number" (topS 6) (Z.fa 0) cd) : FnK Z tab 0 ⟨"is_number", false, ["thing"], []⟩ ⟨1, Nis_number.length, bis_number⟩ :=
  fnK_of (i := 0) (e := ⟨"is_number", false, ["thing"], []⟩) (N := Nis_number) (la := false) F sc0 (fun _ _ _ _ _ _ us hl => match us, hl with | [_], _ => rfl) (fun _ _ _ _ _ _ => fun _ z => nomatch z) rfl rfl ck0 (fun z => nomatch z)
theorem sc1 : FnScope Nis_between ["thing", "low", "high"] (defScope (topS 7)) := ⟨rfl, rfl, rfl, by decide +kernel, rfl, by decide +kernel, by decide +kernel⟩
theorem ck1 : chkSs tab Nis_between bis_between ⟨false, false, defScope (topS 7)⟩ (defBody (topS 7)) = true := by decide +kernel
theorem mk1 {Z : Zed} {cd : Value} (F : FnAt Z.K Z.mg "is_between" (topS 7) (Z.fa 1) cd) : FnK Z tab 1 ⟨"is_between", false, ["thing", "low", "high"], []⟩ ⟨3, Nis_between.length, bis_between⟩ :=
  fnK_of (i := 1) (e := ⟨"is_between", false, ["thing", "low", "high"], []⟩) (N := Nis_between) (la := false) F sc1 (fun _ _ _ _ _ _ us hl => match us, hl with | [_, _, _], _ => rfl) (fun _ _ _ _ _ _ => fun _ z => nomatch z) rfl rfl ck1 (fun z => nomatch z)
theorem sc2 : FnScope Nneed_between ["number", "low", "high", "part"] (defScope (topS 8)) := ⟨rfl, rfl, rfl, by decide +kernel, rfl, by decide +kernel, by decide +kernel⟩
theorem ck2 : chkSs tab Nneed_between bneed_between ⟨false, false, defScope (topS 8)⟩ (defBody (topS 8)) = true := by decide +kernel
theorem mk2 {Z : Zed} {cd : Value} (F : FnAt Z.K Z.mg "need_between" (topS 8) (Z.fa 2) cd) : FnK Z tab 2 ⟨"need_between", false, ["number", "low", "high", "part"], []⟩ ⟨4, Nneed_between.length, bneed_between⟩ :=
  fnK_of (i := 2) (e := ⟨"need_between", false, ["number", "low", "high", "part"], []⟩) (N := Nneed_between) (la := false) F sc2 (fun _ _ _ _ _ _ us hl => match us, hl with | [_, _, _, _], _ => rfl) (fun _ _ _ _ _ _ => fun _ z => nomatch z) rfl rfl ck2 (fun z => nomatch z)
theorem sc3 : FnScope Nhas_each ["thing"] (defScope (topS 11)) := ⟨rfl, rfl, rfl, by decide +kernel, rfl, by decide +kernel, by decide +kernel⟩
theorem ck3 : chkSs tab Nhas_each bhas_each ⟨false, false, defScope (topS 11)⟩ (defBody (topS 11)) = true := by decide +kernel
theorem mk3 {Z : Zed} {cd : Value} (F : FnAt Z.K Z.mg "has_each" (topS 11) (Z.fa 3) cd) : FnK Z tab 3 ⟨"has_each", false, ["thing"], []⟩ ⟨1, Nhas_each.length, bhas_each⟩ :=
  fnK_of (i := 3) (e := ⟨"has_each", false, ["thing"], []⟩) (N := Nhas_each) (la := false) F sc3 (fun _ _ _ _ _ _ us hl => match us, hl with | [_], _ => rfl) (fun _ _ _ _ _ _ => fun _ z => nomatch z) rfl rfl ck3 (fun z => nomatch z)
theorem sc4 : FnScope Nis_row ["thing"] (defScope (topS 12)) := ⟨rfl, rfl, rfl, by decide +kernel, rfl, by decide +kernel, by decide +kernel⟩
theorem ck4 : chkSs tab Nis_row bis_row ⟨false, false, defScope (topS 12)⟩ (defBody (topS 12)) = true := by decide +kernel
theorem mk4 {Z : Zed} {cd : Value} (F : FnAt Z.K Z.mg "is_row" (topS 12) (Z.fa 4) cd) : FnK Z tab 4 ⟨"is_row", false, ["thing"], []⟩ ⟨1, Nis_row.length, bis_row⟩ :=
  fnK_of (i := 4) (e := ⟨"is_row", false, ["thing"], []⟩) (N := Nis_row) (la := false) F sc4 (fun _ _ _ _ _ _ us hl => match us, hl with | [_], _ => rfl) (fun _ _ _ _ _ _ => fun _ z => nomatch z) rfl rfl ck4 (fun z => nomatch z)
theorem sc5 : FnScope Nneed_row ["row"] (defScope (topS 13)) := ⟨rfl, rfl, rfl, by decide +kernel, rfl, by decide +kernel, by decide +kernel⟩
theorem ck5 : chkSs tab Nneed_row bneed_row ⟨false, false, defScope (topS 13)⟩ (defBody (topS 13)) = true := by decide +kernel
theorem mk5 {Z : Zed} {cd : Value} (F : FnAt Z.K Z.mg "need_row" (topS 13) (Z.fa 5) cd) : FnK Z tab 5 ⟨"need_row", false, ["row"], []⟩ ⟨1, Nneed_row.length, bneed_row⟩ :=
  fnK_of (i := 5) (e := ⟨"need_row", false, ["row"], []⟩) (N := Nneed_row) (la := false) F sc5 (fun _ _ _ _ _ _ us hl => match us, hl with | [_], _ => rfl) (fun _ _ _ _ _ _ => fun _ z => nomatch z) rfl rfl ck5 (fun z => nomatch z)
theorem sc6 : FnScope Nneed_seats ["seats"] (defScope (topS 14)) := ⟨rfl, rfl, rfl, by decide +kernel, rfl, by decide +kernel, by decide +kernel⟩
theorem ck6 : chkSs tab Nneed_seats bneed_seats ⟨false, false, defScope (topS 14)⟩ (defBody (topS 14)) = true := by decide +kernel
theorem mk6 {Z : Zed} {cd : Value} (F : FnAt Z.K Z.mg "need_seats" (topS 14) (Z.fa 6) cd) : FnK Z tab 6 ⟨"need_seats", false, ["seats"], []⟩ ⟨1, Nneed_seats.length, bneed_seats⟩ :=
  fnK_of (i := 6) (e := ⟨"need_seats", false, ["seats"], []⟩) (N := Nneed_seats) (la := false) F sc6 (fun _ _ _ _ _ _ us hl => match us, hl with | [_], _ => rfl) (fun _ _ _ _ _ _ => fun _ z => nomatch z) rfl rfl ck6 (fun z => nomatch z)
theorem sc7 : FnScope Nlength_told ["row"] (defScope (topS 15)) := ⟨rfl, rfl, rfl, by decide +kernel, rfl, by decide +kernel, by decide +kernel⟩
theorem ck7 : chkSs tab Nlength_told blength_told ⟨false, false, defScope (topS 15)⟩ (defBody (topS 15)) = true := by decide +kernel
theorem mk7 {Z : Zed} {cd : Value} (F : FnAt Z.K Z.mg "length_told" (topS 15) (Z.fa 7) cd) : FnK Z tab 7 ⟨"length_told", false, ["row"], []⟩ ⟨1, Nlength_told.length, blength_told⟩ :=
  fnK_of (i := 7) (e := ⟨"length_told", false, ["row"], []⟩) (N := Nlength_told) (la := false) F sc7 (fun _ _ _ _ _ _ us hl => match us, hl with | [_], _ => rfl) (fun _ _ _ _ _ _ => fun _ z => nomatch z) rfl rfl ck7 (fun z => nomatch z)
theorem sc8 : FnScope Nlength_of ["row"] (defScope (topS 16)) := ⟨rfl, rfl, rfl, by decide +kernel, rfl, by decide +kernel, by decide +kernel⟩
theorem ck8 : chkSs tab Nlength_of blength_of ⟨false, false, defScope (topS 16)⟩ (defBody (topS 16)) = true := by decide +kernel
theorem mk8 {Z : Zed} {cd : Value} (F : FnAt Z.K Z.mg "length_of" (topS 16) (Z.fa 8) cd) : FnK Z tab 8 ⟨"length_of", false, ["row"], []⟩ ⟨1, Nlength_of.length, blength_of⟩ :=
  fnK_of (i := 8) (e := ⟨"length_of", false, ["row"], []⟩) (N := Nlength_of) (la := false) F sc8 (fun _ _ _ _ _ _ us hl => match us, hl with | [_], _ => rfl) (fun _ _ _ _ _ _ => fun _ z => nomatch z) rfl rfl ck8 (fun z => nomatch z)
theorem sc9 : FnScope Nfalls_told ["row"] (defScope (topS 17)) := ⟨rfl, rfl, rfl, by decide +kernel, rfl, by decide +kernel, by decide +kernel⟩
theorem ck9 : chkSs tab Nfalls_told bfalls_told ⟨false, false, defScope (topS 17)⟩ (defBody (topS 17)) = true := by decide +kernel
theorem mk9 {Z : Zed} {cd : Value} (F : FnAt Z.K Z.mg "falls_told" (topS 17) (Z.fa 9) cd) : FnK Z tab 9 ⟨"falls_told", false, ["row"], []⟩ ⟨1, Nfalls_told.length, bfalls_told⟩ :=
  fnK_of (i := 9) (e := ⟨"falls_told", false, ["row"], []⟩) (N := Nfalls_told) (la := false) F sc9 (fun _ _ _ _ _ _ us hl => match us, hl with | [_], _ => rfl) (fun _ _ _ _ _ _ => fun _ z => nomatch z) rfl rfl ck9 (fun z => nomatch z)
theorem sc10 : FnScope Nfalls_of ["row"] (defScope (topS 18)) := ⟨rfl, rfl, rfl, by decide +kernel, rfl, by decide +kernel, by decide +kernel⟩
theorem ck10 : chkSs tab Nfalls_of bfalls_of ⟨false, false, defScope (topS 18)⟩ (defBody (topS 18)) = true := by decide +kernel
theorem mk10 {Z : Zed} {cd : Value} (F : FnAt Z.K Z.mg "falls_of" (topS 18) (Z.fa 10) cd) : FnK Z tab 10 ⟨"falls_of", false, ["row"], []⟩ ⟨1, Nfalls_of.length, bfalls_of⟩ :=
  fnK_of (i := 10) (e := ⟨"falls_of", false, ["row"], []⟩) (N := Nfalls_of) (la := false) F sc10 (fun _ _ _ _ _ _ us hl => match us, hl with | [_], _ => rfl) (fun _ _ _ _ _ _ => fun _ z => nomatch z) rfl rfl ck10 (fun z => nomatch z)
theorem sc11 : FnScope Ncode_told ["row"] (defScope (topS 20)) := ⟨rfl, rfl, rfl, by decide +kernel, rfl, by decide +kernel, by decide +kernel⟩
theorem ck11 : chkSs tab Ncode_told bcode_told ⟨false, false, defScope (topS 20)⟩ (defBody (topS 20)) = true := by decide +kernel
theorem mk11 {Z : Zed} {cd : Value} (F : FnAt Z.K Z.mg "code_told" (topS 20) (Z.fa 11) cd) : FnK Z tab 11 ⟨"code_told", false, ["row"], []⟩ ⟨1, Ncode_told.length, bcode_told⟩ :=
  fnK_of (i := 11) (e := ⟨"code_told", false, ["row"], []⟩) (N := Ncode_told) (la := false) F sc11 (fun _ _ _ _ _ _ us hl => match us, hl with | [_], _ => rfl) (fun _ _ _ _ _ _ => fun _ z => nomatch z) rfl rfl ck11 (fun z => nomatch z)
theorem sc12 : FnScope Ncode_of ["row"] (defScope (topS 21)) := ⟨rfl, rfl, rfl, by decide +kernel, rfl, by decide +kernel, by decide +kernel⟩
theorem ck12 : chkSs tab Ncode_of bcode_of ⟨false, false, defScope (topS 21)⟩ (defBody (topS 21)) = true := by decide +kernel
theorem mk12 {Z : Zed} {cd : Value} (F : FnAt Z.K Z.mg "code_of" (topS 21) (Z.fa 12) cd) : FnK Z tab 12 ⟨"code_of", false, ["row"], [(0, ["row"], [0])]⟩ ⟨1, Ncode_of.length, bcode_of⟩ :=
  fnK_of (i := 12) (e := ⟨"code_of", false, ["row"], [(0, ["row"], [0])]⟩) (N := Ncode_of) (la := false) F sc12 (fun _ _ _ _ _ _ us hl => match us, hl with | [_], _ => rfl) (fun _ _ _ _ _ _ => List.forall_mem_cons.mpr ⟨fun us ws h1 h2 => match us, ws, h1, h2 with | [], [_], _, _ => rfl, fun _ z => nomatch z⟩) rfl rfl ck12 (fun z => nomatch z)
theorem sc13 : FnScope Nis_code ["thing"] (defScope (topS 22)) := ⟨rfl, rfl, rfl, by decide +kernel, rfl, by decide +kernel, by decide +kernel⟩
theorem ck13 : chkSs tab Nis_code bis_code ⟨false, false, defScope (topS 22)⟩ (defBody (topS 22)) = true := by decide +kernel
theorem mk13 {Z : Zed} {cd : Value} (F : FnAt Z.K Z.mg "is_code" (topS 22) (Z.fa 13) cd) : FnK Z tab 13 ⟨"is_code", false, ["thing"], [(0, ["thing"], [0])]⟩ ⟨1, Nis_code.length, bis_code⟩ :=
  fnK_of (i := 13) (e := ⟨"is_code", false, ["thing"], [(0, ["thing"], [0])]⟩) (N := Nis_code) (la := false) F sc13 (fun _ _ _ _ _ _ us hl => match us, hl with | [_], _ => rfl) (fun _ _ _ _ _ _ => List.forall_mem_cons.mpr ⟨fun us ws h1 h2 => match us, ws, h1, h2 with | [], [_], _, _ => rfl, fun _ z => nomatch z⟩) rfl rfl ck13 (fun z => nomatch z)
theorem sc14 : FnScope Nrow_from ["code"] (defScope (topS 23)) := ⟨rfl, rfl, rfl, by decide +kernel, rfl, by decide +kernel, by decide +kernel⟩
theorem ck14 : chkSs tab Nrow_from brow_from ⟨false, false, defScope (topS 23)⟩ (defBody (topS 23)) = true := by decide +kernel
theorem mk14 {Z : Zed} {cd : Value} (F : FnAt Z.K Z.mg "row_from" (topS 23) (Z.fa 14) cd) : FnK Z tab 14 ⟨"row_from", false, ["code"], []⟩ ⟨1, Nrow_from.length, brow_from⟩ :=
  fnK_of (i := 14) (e := ⟨"row_from", false, ["code"], []⟩) (N := Nrow_from) (la := false) F sc14 (fun _ _ _ _ _ _ us hl => match us, hl with | [_], _ => rfl) (fun _ _ _ _ _ _ => fun _ z => nomatch z) rfl rfl ck14 (fun z => nomatch z)
theorem sc15 : FnScope Nrow_of_code ["code"] (defScope (topS 24)) := ⟨rfl, rfl, rfl, by decide +kernel, rfl, by decide +kernel, by decide +kernel⟩
theorem ck15 : chkSs tab Nrow_of_code brow_of_code ⟨false, false, defScope (topS 24)⟩ (defBody (topS 24)) = true := by decide +kernel
theorem mk15 {Z : Zed} {cd : Value} (F : FnAt Z.K Z.mg "row_of_code" (topS 24) (Z.fa 15) cd) : FnK Z tab 15 ⟨"row_of_code", false, ["code"], [(0, ["code"], [0])]⟩ ⟨1, Nrow_of_code.length, brow_of_code⟩ :=
  fnK_of (i := 15) (e := ⟨"row_of_code", false, ["code"], [(0, ["code"], [0])]⟩) (N := Nrow_of_code) (la := false) F sc15 (fun _ _ _ _ _ _ us hl => match us, hl with | [_], _ => rfl) (fun _ _ _ _ _ _ => List.forall_mem_cons.mpr ⟨fun us ws h1 h2 => match us, ws, h1, h2 with | [], [_], _, _ => rfl, fun _ z => nomatch z⟩) rfl rfl ck15 (fun z => nomatch z)
theorem sc16 : FnScope Nrow_number ["row"] (defScope (topS 25)) := ⟨rfl, rfl, rfl, by decide +kernel, rfl, by decide +kernel, by decide +kernel⟩
theorem ck16 : chkSs tab Nrow_number brow_number ⟨false, false, defScope (topS 25)⟩ (defBody (topS 25)) = true := by decide +kernel
theorem mk16 {Z : Zed} {cd : Value} (F : FnAt Z.K Z.mg "row_number" (topS 25) (Z.fa 16) cd) : FnK Z tab 16 ⟨"row_number", false, ["row"], [(0, ["row"], [0])]⟩ ⟨1, Nrow_number.length, brow_number⟩ :=
  fnK_of (i := 16) (e := ⟨"row_number", false, ["row"], [(0, ["row"], [0])]⟩) (N := Nrow_number) (la := false) F sc16 (fun _ _ _ _ _ _ us hl => match us, hl with | [_], _ => rfl) (fun _ _ _ _ _ _ => List.forall_mem_cons.mpr ⟨fun us ws h1 h2 => match us, ws, h1, h2 with | [], [_], _, _ => rfl, fun _ z => nomatch z⟩) rfl rfl ck16 (fun z => nomatch z)
theorem sc17 : FnScope Nfactorial_of ["seats"] (defScope (topS 26)) := ⟨rfl, rfl, rfl, by decide +kernel, rfl, by decide +kernel, by decide +kernel⟩
theorem ck17 : chkSs tab Nfactorial_of bfactorial_of ⟨false, false, defScope (topS 26)⟩ (defBody (topS 26)) = true := by decide +kernel
theorem mk17 {Z : Zed} {cd : Value} (F : FnAt Z.K Z.mg "factorial_of" (topS 26) (Z.fa 17) cd) : FnK Z tab 17 ⟨"factorial_of", false, ["seats"], []⟩ ⟨1, Nfactorial_of.length, bfactorial_of⟩ :=
  fnK_of (i := 17) (e := ⟨"factorial_of", false, ["seats"], []⟩) (N := Nfactorial_of) (la := false) F sc17 (fun _ _ _ _ _ _ us hl => match us, hl with | [_], _ => rfl) (fun _ _ _ _ _ _ => fun _ z => nomatch z) rfl rfl ck17 (fun z => nomatch z)
theorem sc18 : FnScope Nrow_at ["seats", "number"] (defScope (topS 27)) := ⟨rfl, rfl, rfl, by decide +kernel, rfl, by decide +kernel, by decide +kernel⟩
theorem ck18 : chkSs tab Nrow_at brow_at ⟨false, false, defScope (topS 27)⟩ (defBody (topS 27)) = true := by decide +kernel
theorem mk18 {Z : Zed} {cd : Value} (F : FnAt Z.K Z.mg "row_at" (topS 27) (Z.fa 18) cd) : FnK Z tab 18 ⟨"row_at", false, ["seats", "number"], [(0, ["number", "seats"], [1, 0])]⟩ ⟨2, Nrow_at.length, brow_at⟩ :=
  fnK_of (i := 18) (e := ⟨"row_at", false, ["seats", "number"], [(0, ["number", "seats"], [1, 0])]⟩) (N := Nrow_at) (la := false) F sc18 (fun _ _ _ _ _ _ us hl => match us, hl with | [_, _], _ => rfl) (fun _ _ _ _ _ _ => List.forall_mem_cons.mpr ⟨fun us ws h1 h2 => match us, ws, h1, h2 with | [], [_, _], _, _ => rfl, fun _ z => nomatch z⟩) rfl rfl ck18 (fun z => nomatch z)
theorem sc19 : FnScope N_law_begun ["script"] (defScope (topS 29)) := ⟨rfl, rfl, rfl, by decide +kernel, rfl, by decide +kernel, by decide +kernel⟩
theorem ck19 : chkSs tab N_law_begun b_law_begun ⟨false, false, defScope (topS 29)⟩ (defBody (topS 29)) = true := by decide +kernel
theorem mk19 {Z : Zed} {cd : Value} (F : FnAt Z.K Z.mg "_law_begun" (topS 29) (Z.fa 19) cd) : FnK Z tab 19 ⟨"_law_begun", false, ["script"], []⟩ ⟨1, N_law_begun.length, b_law_begun⟩ :=
  fnK_of (i := 19) (e := ⟨"_law_begun", false, ["script"], []⟩) (N := N_law_begun) (la := false) F sc19 (fun _ _ _ _ _ _ us hl => match us, hl with | [_], _ => rfl) (fun _ _ _ _ _ _ => fun _ z => nomatch z) rfl rfl ck19 (fun z => nomatch z)
theorem sc20 : FnScope N_law_mixed ["draw"] (defScope (topS 30)) := ⟨rfl, rfl, rfl, by decide +kernel, rfl, by decide +kernel, by decide +kernel⟩
theorem ck20 : chkSs tab N_law_mixed b_law_mixed ⟨false, false, defScope (topS 30)⟩ (defBody (topS 30)) = true := by decide +kernel
theorem mk20 {Z : Zed} {cd : Value} (F : FnAt Z.K Z.mg "_law_mixed" (topS 30) (Z.fa 20) cd) : FnK Z tab 20 ⟨"_law_mixed", false, ["draw"], []⟩ ⟨1, N_law_mixed.length, b_law_mixed⟩ :=
  fnK_of (i := 20) (e := ⟨"_law_mixed", false, ["draw"], []⟩) (N := N_law_mixed) (la := false) F sc20 (fun _ _ _ _ _ _ us hl => match us, hl with | [_], _ => rfl) (fun _ _ _ _ _ _ => fun _ z => nomatch z) rfl rfl ck20 (fun z => nomatch z)
theorem sc21 : FnScope N_law_take ["draw", "amount"] (defScope (topS 31)) := ⟨rfl, rfl, rfl, by decide +kernel, rfl, by decide +kernel, by decide +kernel⟩
theorem ck21 : chkSs tab N_law_take b_law_take ⟨false, false, defScope (topS 31)⟩ (defBody (topS 31)) = true := by decide +kernel
theorem mk21 {Z : Zed} {cd : Value} (F : FnAt Z.K Z.mg "_law_take" (topS 31) (Z.fa 21) cd) : FnK Z tab 21 ⟨"_law_take", false, ["draw", "amount"], []⟩ ⟨2, N_law_take.length, b_law_take⟩ :=
  fnK_of (i := 21) (e := ⟨"_law_take", false, ["draw", "amount"], []⟩) (N := N_law_take) (la := false) F sc21 (fun _ _ _ _ _ _ us hl => match us, hl with | [_, _], _ => rfl) (fun _ _ _ _ _ _ => fun _ z => nomatch z) rfl rfl ck21 (fun z => nomatch z)
theorem sc22 : FnScope N_law_pick ["draw", "some"] (defScope (topS 32)) := ⟨rfl, rfl, rfl, by decide +kernel, rfl, by decide +kernel, by decide +kernel⟩
theorem ck22 : chkSs tab N_law_pick b_law_pick ⟨false, false, defScope (topS 32)⟩ (defBody (topS 32)) = true := by decide +kernel
theorem mk22 {Z : Zed} {cd : Value} (F : FnAt Z.K Z.mg "_law_pick" (topS 32) (Z.fa 22) cd) : FnK Z tab 22 ⟨"_law_pick", false, ["draw", "some"], []⟩ ⟨2, N_law_pick.length, b_law_pick⟩ :=
  fnK_of (i := 22) (e := ⟨"_law_pick", false, ["draw", "some"], []⟩) (N := N_law_pick) (la := false) F sc22 (fun _ _ _ _ _ _ us hl => match us, hl with | [_, _], _ => rfl) (fun _ _ _ _ _ _ => fun _ z => nomatch z) rfl rfl ck22 (fun z => nomatch z)
theorem sc23 : FnScope N_law_shuffled ["draw", "some"] (defScope (topS 33)) := ⟨rfl, rfl, rfl, by decide +kernel, rfl, by decide +kernel, by decide +kernel⟩
theorem ck23 : chkSs tab N_law_shuffled b_law_shuffled ⟨false, false, defScope (topS 33)⟩ (defBody (topS 33)) = true := by decide +kernel
theorem mk23 {Z : Zed} {cd : Value} (F : FnAt Z.K Z.mg "_law_shuffled" (topS 33) (Z.fa 23) cd) : FnK Z tab 23 ⟨"_law_shuffled", false, ["draw", "some"], []⟩ ⟨2, N_law_shuffled.length, b_law_shuffled⟩ :=
  fnK_of (i := 23) (e := ⟨"_law_shuffled", false, ["draw", "some"], []⟩) (N := N_law_shuffled) (la := false) F sc23 (fun _ _ _ _ _ _ us hl => match us, hl with | [_, _], _ => rfl) (fun _ _ _ _ _ _ => fun _ z => nomatch z) rfl rfl ck23 (fun z => nomatch z)
theorem sc24 : FnScope N_law_says ["found", "due"] (defScope (topS 35)) := ⟨rfl, rfl, rfl, by decide +kernel, rfl, by decide +kernel, by decide +kernel⟩
theorem ck24 : chkSs tab N_law_says b_law_says ⟨false, false, defScope (topS 35)⟩ (defBody (topS 35)) = true := by decide +kernel
theorem mk24 {Z : Zed} {cd : Value} (F : FnAt Z.K Z.mg "_law_says" (topS 35) (Z.fa 24) cd) : FnK Z tab 24 ⟨"_law_says", false, ["found", "due"], []⟩ ⟨2, N_law_says.length, b_law_says⟩ :=
  fnK_of (i := 24) (e := ⟨"_law_says", false, ["found", "due"], []⟩) (N := N_law_says) (la := false) F sc24 (fun _ _ _ _ _ _ us hl => match us, hl with | [_, _], _ => rfl) (fun _ _ _ _ _ _ => fun _ z => nomatch z) rfl rfl ck24 (fun z => nomatch z)
theorem sc25 : FnScope N_law_is_number ["thing"] (defScope (topS 36)) := ⟨rfl, rfl, rfl, by decide +kernel, rfl, by decide +kernel, by decide +kernel⟩
theorem ck25 : chkSs tab N_law_is_number b_law_is_number ⟨false, false, defScope (topS 36)⟩ (defBody (topS 36)) = true := by decide +kernel
theorem mk25 {Z : Zed} {cd : Value} (F : FnAt Z.K Z.mg "_law_is_number" (topS 36) (Z.fa 25) cd) : FnK Z tab 25 ⟨"_law_is_number", false, ["thing"], []⟩ ⟨1, N_law_is_number.length, b_law_is_number⟩ :=
  fnK_of (i := 25) (e := ⟨"_law_is_number", false, ["thing"], []⟩) (N := N_law_is_number) (la := false) F sc25 (fun _ _ _ _ _ _ us hl => match us, hl with | [_], _ => rfl) (fun _ _ _ _ _ _ => fun _ z => nomatch z) rfl rfl ck25 (fun z => nomatch z)
theorem sc26 : FnScope N_law_row ["draw", "most"] (defScope (topS 37)) := ⟨rfl, rfl, rfl, by decide +kernel, rfl, by decide +kernel, by decide +kernel⟩
theorem ck26 : chkSs tab N_law_row b_law_row ⟨false, false, defScope (topS 37)⟩ (defBody (topS 37)) = true := by decide +kernel
theorem mk26 {Z : Zed} {cd : Value} (F : FnAt Z.K Z.mg "_law_row" (topS 37) (Z.fa 26) cd) : FnK Z tab 26 ⟨"_law_row", false, ["draw", "most"], []⟩ ⟨2, N_law_row.length, b_law_row⟩ :=
  fnK_of (i := 26) (e := ⟨"_law_row", false, ["draw", "most"], []⟩) (N := N_law_row) (la := false) F sc26 (fun _ _ _ _ _ _ us hl => match us, hl with | [_, _], _ => rfl) (fun _ _ _ _ _ _ => fun _ z => nomatch z) rfl rfl ck26 (fun z => nomatch z)
theorem sc27 : FnScope N_law_mate ["draw", "row"] (defScope (topS 38)) := ⟨rfl, rfl, rfl, by decide +kernel, rfl, by decide +kernel, by decide +kernel⟩
theorem ck27 : chkSs tab N_law_mate b_law_mate ⟨false, false, defScope (topS 38)⟩ (defBody (topS 38)) = true := by decide +kernel
theorem mk27 {Z : Zed} {cd : Value} (F : FnAt Z.K Z.mg "_law_mate" (topS 38) (Z.fa 27) cd) : FnK Z tab 27 ⟨"_law_mate", false, ["draw", "row"], []⟩ ⟨2, N_law_mate.length, b_law_mate⟩ :=
  fnK_of (i := 27) (e := ⟨"_law_mate", false, ["draw", "row"], []⟩) (N := N_law_mate) (la := false) F sc27 (fun _ _ _ _ _ _ us hl => match us, hl with | [_, _], _ => rfl) (fun _ _ _ _ _ _ => fun _ z => nomatch z) rfl rfl ck27 (fun z => nomatch z)
theorem sc28 : FnScope N_law_is_row ["thing"] (defScope (topS 39)) := ⟨rfl, rfl, rfl, by decide +kernel, rfl, by decide +kernel, by decide +kernel⟩
theorem ck28 : chkSs tab N_law_is_row b_law_is_row ⟨false, false, defScope (topS 39)⟩ (defBody (topS 39)) = true := by decide +kernel
theorem mk28 {Z : Zed} {cd : Value} (F : FnAt Z.K Z.mg "_law_is_row" (topS 39) (Z.fa 28) cd) : FnK Z tab 28 ⟨"_law_is_row", false, ["thing"], []⟩ ⟨1, N_law_is_row.length, b_law_is_row⟩ :=
  fnK_of (i := 28) (e := ⟨"_law_is_row", false, ["thing"], []⟩) (N := N_law_is_row) (la := false) F sc28 (fun _ _ _ _ _ _ us hl => match us, hl with | [_], _ => rfl) (fun _ _ _ _ _ _ => fun _ z => nomatch z) rfl rfl ck28 (fun z => nomatch z)
theorem sc29 : FnScope N_law_no_row ["draw", "row"] (defScope (topS 40)) := ⟨rfl, rfl, rfl, by decide +kernel, rfl, by decide +kernel, by decide +kernel⟩
theorem ck29 : chkSs tab N_law_no_row b_law_no_row ⟨false, false, defScope (topS 40)⟩ (defBody (topS 40)) = true := by decide +kernel
theorem mk29 {Z : Zed} {cd : Value} (F : FnAt Z.K Z.mg "_law_no_row" (topS 40) (Z.fa 29) cd) : FnK Z tab 29 ⟨"_law_no_row", false, ["draw", "row"], []⟩ ⟨2, N_law_no_row.length, b_law_no_row⟩ :=
  fnK_of (i := 29) (e := ⟨"_law_no_row", false, ["draw", "row"], []⟩) (N := N_law_no_row) (la := false) F sc29 (fun _ _ _ _ _ _ us hl => match us, hl with | [_, _], _ => rfl) (fun _ _ _ _ _ _ => fun _ z => nomatch z) rfl rfl ck29 (fun z => nomatch z)
theorem sc30 : FnScope N_law_word ["error"] (defScope (topS 41)) := ⟨rfl, rfl, rfl, by decide +kernel, rfl, by decide +kernel, by decide +kernel⟩
theorem ck30 : chkSs tab N_law_word b_law_word ⟨false, true, defScope (topS 41)⟩ (defBody (topS 41)) = true := by decide +kernel
theorem mk30 {Z : Zed} {cd : Value} (F : FnAt Z.K Z.mg "_law_word" (topS 41) (Z.fa 30) cd) : FnK Z tab 30 ⟨"_law_word", true, ["error"], []⟩ ⟨1, N_law_word.length, b_law_word⟩ :=
  fnK_of (i := 30) (e := ⟨"_law_word", true, ["error"], []⟩) (N := N_law_word) (la := false) F sc30 (fun _ _ _ _ _ _ us hl => match us, hl with | [_], _ => rfl) (fun _ _ _ _ _ _ => fun _ z => nomatch z) rfl rfl ck30 (fun z => nomatch z)
theorem sc31 : FnScope N_law_code ["row"] (defScope (topS 42)) := ⟨rfl, rfl, rfl, by decide +kernel, rfl, by decide +kernel, by decide +kernel⟩
theorem ck31 : chkSs tab N_law_code b_law_code ⟨false, false, defScope (topS 42)⟩ (defBody (topS 42)) = true := by decide +kernel
theorem mk31 {Z : Zed} {cd : Value} (F : FnAt Z.K Z.mg "_law_code" (topS 42) (Z.fa 31) cd) : FnK Z tab 31 ⟨"_law_code", false, ["row"], []⟩ ⟨1, N_law_code.length, b_law_code⟩ :=
  fnK_of (i := 31) (e := ⟨"_law_code", false, ["row"], []⟩) (N := N_law_code) (la := false) F sc31 (fun _ _ _ _ _ _ us hl => match us, hl with | [_], _ => rfl) (fun _ _ _ _ _ _ => fun _ z => nomatch z) rfl rfl ck31 (fun z => nomatch z)
theorem sc32 : FnScope N_law_is_code ["thing"] (defScope (topS 43)) := ⟨rfl, rfl, rfl, by decide +kernel, rfl, by decide +kernel, by decide +kernel⟩
theorem ck32 : chkSs tab N_law_is_code b_law_is_code ⟨false, false, defScope (topS 43)⟩ (defBody (topS 43)) = true := by decide +kernel
theorem mk32 {Z : Zed} {cd : Value} (F : FnAt Z.K Z.mg "_law_is_code" (topS 43) (Z.fa 32) cd) : FnK Z tab 32 ⟨"_law_is_code", false, ["thing"], []⟩ ⟨1, N_law_is_code.length, b_law_is_code⟩ :=
  fnK_of (i := 32) (e := ⟨"_law_is_code", false, ["thing"], []⟩) (N := N_law_is_code) (la := false) F sc32 (fun _ _ _ _ _ _ us hl => match us, hl with | [_], _ => rfl) (fun _ _ _ _ _ _ => fun _ z => nomatch z) rfl rfl ck32 (fun z => nomatch z)
theorem sc33 : FnScope N_law_of_code ["code"] (defScope (topS 44)) := ⟨rfl, rfl, rfl, by decide +kernel, rfl, by decide +kernel, by decide +kernel⟩
theorem ck33 : chkSs tab N_law_of_code b_law_of_code ⟨false, false, defScope (topS 44)⟩ (defBody (topS 44)) = true := by decide +kernel
theorem mk33 {Z : Zed} {cd : Value} (F : FnAt Z.K Z.mg "_law_of_code" (topS 44) (Z.fa 33) cd) : FnK Z tab 33 ⟨"_law_of_code", false, ["code"], []⟩ ⟨1, N_law_of_code.length, b_law_of_code⟩ :=
  fnK_of (i := 33) (e := ⟨"_law_of_code", false, ["code"], []⟩) (N := N_law_of_code) (la := false) F sc33 (fun _ _ _ _ _ _ us hl => match us, hl with | [_], _ => rfl) (fun _ _ _ _ _ _ => fun _ z => nomatch z) rfl rfl ck33 (fun z => nomatch z)
theorem sc34 : FnScope N_law_number ["code"] (defScope (topS 45)) := ⟨rfl, rfl, rfl, by decide +kernel, rfl, by decide +kernel, by decide +kernel⟩
theorem ck34 : chkSs tab N_law_number b_law_number ⟨false, false, defScope (topS 45)⟩ (defBody (topS 45)) = true := by decide +kernel
theorem mk34 {Z : Zed} {cd : Value} (F : FnAt Z.K Z.mg "_law_number" (topS 45) (Z.fa 34) cd) : FnK Z tab 34 ⟨"_law_number", false, ["code"], []⟩ ⟨1, N_law_number.length, b_law_number⟩ :=
  fnK_of (i := 34) (e := ⟨"_law_number", false, ["code"], []⟩) (N := N_law_number) (la := false) F sc34 (fun _ _ _ _ _ _ us hl => match us, hl with | [_], _ => rfl) (fun _ _ _ _ _ _ => fun _ z => nomatch z) rfl rfl ck34 (fun z => nomatch z)
theorem sc35 : FnScope N_law_times ["seats"] (defScope (topS 46)) := ⟨rfl, rfl, rfl, by decide +kernel, rfl, by decide +kernel, by decide +kernel⟩
theorem ck35 : chkSs tab N_law_times b_law_times ⟨false, false, defScope (topS 46)⟩ (defBody (topS 46)) = true := by decide +kernel
theorem mk35 {Z : Zed} {cd : Value} (F : FnAt Z.K Z.mg "_law_times" (topS 46) (Z.fa 35) cd) : FnK Z tab 35 ⟨"_law_times", false, ["seats"], []⟩ ⟨1, N_law_times.length, b_law_times⟩ :=
  fnK_of (i := 35) (e := ⟨"_law_times", false, ["seats"], []⟩) (N := N_law_times) (la := false) F sc35 (fun _ _ _ _ _ _ us hl => match us, hl with | [_], _ => rfl) (fun _ _ _ _ _ _ => fun _ z => nomatch z) rfl rfl ck35 (fun z => nomatch z)
theorem sc36 : FnScope N_law_right ["row"] (defScope (topS 47)) := ⟨rfl, rfl, rfl, by decide +kernel, rfl, by decide +kernel, by decide +kernel⟩
theorem ck36 : chkSs tab N_law_right b_law_right ⟨false, true, defScope (topS 47)⟩ (defBody (topS 47)) = true := by decide +kernel
theorem mk36 {Z : Zed} {cd : Value} (F : FnAt Z.K Z.mg "_law_right" (topS 47) (Z.fa 36) cd) : FnK Z tab 36 ⟨"_law_right", true, ["row"], []⟩ ⟨1, N_law_right.length, b_law_right⟩ :=
  fnK_of (i := 36) (e := ⟨"_law_right", true, ["row"], []⟩) (N := N_law_right) (la := false) F sc36 (fun _ _ _ _ _ _ us hl => match us, hl with | [_], _ => rfl) (fun _ _ _ _ _ _ => fun _ z => nomatch z) rfl rfl ck36 (fun z => nomatch z)
theorem sc37 : FnScope N_law_two_right ["one", "other"] (defScope (topS 48)) := ⟨rfl, rfl, rfl, by decide +kernel, rfl, by decide +kernel, by decide +kernel⟩
theorem ck37 : chkSs tab N_law_two_right b_law_two_right ⟨false, false, defScope (topS 48)⟩ (defBody (topS 48)) = true := by decide +kernel
theorem mk37 {Z : Zed} {cd : Value} (F : FnAt Z.K Z.mg "_law_two_right" (topS 48) (Z.fa 37) cd) : FnK Z tab 37 ⟨"_law_two_right", false, ["one", "other"], []⟩ ⟨2, N_law_two_right.length, b_law_two_right⟩ :=
  fnK_of (i := 37) (e := ⟨"_law_two_right", false, ["one", "other"], []⟩) (N := N_law_two_right) (la := false) F sc37 (fun _ _ _ _ _ _ us hl => match us, hl with | [_, _], _ => rfl) (fun _ _ _ _ _ _ => fun _ z => nomatch z) rfl rfl ck37 (fun z => nomatch z)
theorem sc38 : FnScope N_law_near_right ["draw", "code"] (defScope (topS 49)) := ⟨rfl, rfl, rfl, by decide +kernel, rfl, by decide +kernel, by decide +kernel⟩
theorem ck38 : chkSs tab N_law_near_right b_law_near_right ⟨true, true, defScope (topS 49)⟩ (defBody (topS 49)) = true := by decide +kernel
theorem mk38 {Z : Zed} {cd : Value} (hT : TabB Z.base Z.mg 329 325) (hcd : cd = .ref 329) (hZ : Z.T = TTL) (F : FnAt Z.K Z.mg "_law_near_right" (topS 49) (Z.fa 38) cd) : FnK Z tab 38 ⟨"_law_near_right", true, ["draw", "code"], []⟩ ⟨2, N_law_near_right.length, b_law_near_right⟩ :=
  fnK_of (i := 38) (e := ⟨"_law_near_right", true, ["draw", "code"], []⟩) (N := N_law_near_right) (la := true) F sc38 (fun _ _ _ _ _ _ us hl => match us, hl with | [_, _], _ => rfl) (fun _ _ _ _ _ _ => fun _ z => nomatch z) rfl rfl ck38 (fun _ => ⟨329, 325, hT, hcd, by rw [hZ]; exact List.mem_cons_self, fun p hp e => by rw [hZ] at hp; simp only [TTL, List.mem_cons, List.not_mem_nil, or_false] at hp; rcases hp with rfl | rfl <;> first | exact absurd e (by decide) | rfl⟩)
theorem sc39 : FnScope Nlaw ["script"] (defScope (topS 50)) := ⟨rfl, rfl, rfl, by decide +kernel, rfl, by decide +kernel, by decide +kernel⟩
theorem ck39 : chkSs tab Nlaw blaw ⟨true, true, defScope (topS 50)⟩ (defBody (topS 50)) = true := by decide +kernel
theorem mk39 {Z : Zed} {cd : Value} (hT : TabB Z.base Z.mg 336 332) (hcd : cd = .ref 336) (hZ : Z.T = TTL) (F : FnAt Z.K Z.mg "law" (topS 50) (Z.fa 39) cd) : FnK Z tab 39 ⟨"law", true, ["script"], []⟩ ⟨1, Nlaw.length, blaw⟩ :=
  fnK_of (i := 39) (e := ⟨"law", true, ["script"], []⟩) (N := Nlaw) (la := true) F sc39 (fun _ _ _ _ _ _ us hl => match us, hl with | [_], _ => rfl) (fun _ _ _ _ _ _ => fun _ z => nomatch z) rfl rfl ck39 (fun _ => ⟨336, 332, hT, hcd, by rw [hZ]; exact (List.mem_cons_of_mem _ List.mem_cons_self), fun p hp e => by rw [hZ] at hp; simp only [TTL, List.mem_cons, List.not_mem_nil, or_false] at hp; rcases hp with rfl | rfl <;> first | exact absurd e (by decide) | rfl⟩)
def faL : List Addr := [79, 86, 93, 98, 105, 112, 119, 124, 131, 136, 143, 148, 155, 160, 167, 174, 181, 188, 195, 200, 207, 214, 221, 228, 242, 249, 256, 263, 268, 273, 280, 285, 290, 297, 304, 311, 316, 323, 330, 337]
def caL : List Addr := [24, 46, 58, 70]
def faF (i : Nat) : Addr := faL.getD i 0
def caF (i : Nat) : Addr := caL.getD i 0
def pure_law : Prop := ∀ ns : List Int, ns.length ≤ 63 → (∀ z ∈ ns, Builtin.Int.intBits z ≤ 1048576) → ∃ w', den cfg prog 13 39 [.scr (ns.map D.int)] w00 = .ok (.v (.bl true)) w'
theorem fin {w : World} {K : PySem.W.Frag} {mg : Str → Option Value} {fl : Addr} {h : Heap} (X : K.In h) (G : h.Ns mainGlobals mg) (hfl : mg "law" = some (.ref fl))
    {cd0 : Value} (F0 : FnAt K mg "is_number" (topS 6) 79 cd0)
    {cd1 : Value} (F1 : FnAt K mg "is_between" (topS 7) 86 cd1)
    {cd2 : Value} (F2 : FnAt K mg "need_between" (topS 8) 93 cd2)
    {cd3 : Value} (F3 : FnAt K mg "has_each" (topS 11) 98 cd3)
    {cd4 : Value} (F4 : FnAt K mg "is_row" (topS 12) 105 cd4)
    {cd5 : Value} (F5 : FnAt K mg "need_row" (topS 13) 112 cd5)
    {cd6 : Value} (F6 : FnAt K mg "need_seats" (topS 14) 119 cd6)
    {cd7 : Value} (F7 : FnAt K mg "length_told" (topS 15) 124 cd7)
    {cd8 : Value} (F8 : FnAt K mg "length_of" (topS 16) 131 cd8)
    {cd9 : Value} (F9 : FnAt K mg "falls_told" (topS 17) 136 cd9)
    {cd10 : Value} (F10 : FnAt K mg "falls_of" (topS 18) 143 cd10)
    {cd11 : Value} (F11 : FnAt K mg "code_told" (topS 20) 148 cd11)
    {cd12 : Value} (F12 : FnAt K mg "code_of" (topS 21) 155 cd12)
    {cd13 : Value} (F13 : FnAt K mg "is_code" (topS 22) 160 cd13)
    {cd14 : Value} (F14 : FnAt K mg "row_from" (topS 23) 167 cd14)
    {cd15 : Value} (F15 : FnAt K mg "row_of_code" (topS 24) 174 cd15)
    {cd16 : Value} (F16 : FnAt K mg "row_number" (topS 25) 181 cd16)
    {cd17 : Value} (F17 : FnAt K mg "factorial_of" (topS 26) 188 cd17)
    {cd18 : Value} (F18 : FnAt K mg "row_at" (topS 27) 195 cd18)
    {cd19 : Value} (F19 : FnAt K mg "_law_begun" (topS 29) 200 cd19)
    {cd20 : Value} (F20 : FnAt K mg "_law_mixed" (topS 30) 207 cd20)
    {cd21 : Value} (F21 : FnAt K mg "_law_take" (topS 31) 214 cd21)
    {cd22 : Value} (F22 : FnAt K mg "_law_pick" (topS 32) 221 cd22)
    {cd23 : Value} (F23 : FnAt K mg "_law_shuffled" (topS 33) 228 cd23)
    {cd24 : Value} (F24 : FnAt K mg "_law_says" (topS 35) 242 cd24)
    {cd25 : Value} (F25 : FnAt K mg "_law_is_number" (topS 36) 249 cd25)
    {cd26 : Value} (F26 : FnAt K mg "_law_row" (topS 37) 256 cd26)
    {cd27 : Value} (F27 : FnAt K mg "_law_mate" (topS 38) 263 cd27)
    {cd28 : Value} (F28 : FnAt K mg "_law_is_row" (topS 39) 268 cd28)
    {cd29 : Value} (F29 : FnAt K mg "_law_no_row" (topS 40) 273 cd29)
    {cd30 : Value} (F30 : FnAt K mg "_law_word" (topS 41) 280 cd30)
    {cd31 : Value} (F31 : FnAt K mg "_law_code" (topS 42) 285 cd31)
    {cd32 : Value} (F32 : FnAt K mg "_law_is_code" (topS 43) 290 cd32)
    {cd33 : Value} (F33 : FnAt K mg "_law_of_code" (topS 44) 297 cd33)
    {cd34 : Value} (F34 : FnAt K mg "_law_number" (topS 45) 304 cd34)
    {cd35 : Value} (F35 : FnAt K mg "_law_times" (topS 46) 311 cd35)
    {cd36 : Value} (F36 : FnAt K mg "_law_right" (topS 47) 316 cd36)
    {cd37 : Value} (F37 : FnAt K mg "_law_two_right" (topS 48) 323 cd37)
    (F38 : FnAt K mg "_law_near_right" (topS 49) 330 (.ref 329))
    (F39 : FnAt K mg "law" (topS 50) 337 (.ref 336))
    (C0 : clsB K "SwapError" 24 = true)
    (x0 : excB K 24 = true)
    (C1 : clsB K "BadNumber" 46 = true)
    (I1 : InitC PySem.Challenge.rw_leastswaps_k03_whole_codes_and_numbers.prog K 46 43 "part" "part") (o1 : PySem.W.findIn K (.ref 46) "part" = some none)
    (C2 : clsB K "BadRow" 58 = true)
    (x2 : excB K 58 = true)
    (C3 : clsB K "BadCode" 70 = true)
    (x3 : excB K 70 = true)
    (nb : bltB K = true)
    {tk0 : Tok} (k0 : PySem.W.nsIn K mainGlobals "MOST_SEATS" = some (some (.int 8 tk0)))
    (cau : CauAt K mg "_law_caught" 24) (ex : (caL.all fun C => decide (PySem.W.exmOne K (.ref C) (.ref 24) = some true)) = true)
    (kt_BadNumber : kitB2 K caL 46 [false, true, false, false] = true)
    (kt_BadRow : kitB2 K caL 58 [false, false, true, false] = true)
    (kt_BadCode : kitB2 K caL 70 [false, false, false, true] = true)
    (ta0 : K.lookup 325 = none) (tb0 : PySem.W.codeHdIn K 329 325 = true)
    (ta1 : K.lookup 332 = none) (tb1 : PySem.W.codeHdIn K 336 332 = true)
    (pure : pure_law) : LawV PySem.Challenge.rw_leastswaps_k03_whole_codes_and_numbers w K 63 "script" mg fl [325, 332] := by
  have el : fl = 337 := by have z := hfl.symm.trans F39.mg; cases z; rfl
  subst el
  obtain ⟨oc, kV, dc, pm, ct, od, an, sl, lk⟩ := F39.lk
  have blt := blt_of X G nb
  have clA : AllI (fun c x => ClAt K mg x (caF c)) 0 tab.cls := ⟨clsAt_of X G C0, clsAt_of X G C1, clsAt_of X G C2, clsAt_of X G C3, True.intro⟩
  refine ⟨CSL, tab, cfg, prog, faF, caF, fldT, TTL, 12, 39, _, ⟨"law", true, ["script"], []⟩, ⟨1, Nlaw.length, blaw⟩, _, _, _, ?_, ?_, ?_, ?_, rfl, rfl, rfl, rfl, lk, fun s u => .of_eq rfl, ⟨rfl, by decide +kernel, by decide +kernel⟩, fun base b1 b2 b3 => ⟨?_, ?_⟩, pure⟩
  · intro p hp; simp only [CSL, TTL, List.mem_cons, List.not_mem_nil, or_false] at hp; rcases hp with rfl | rfl; all_goals decide
  · intro p hp; simp only [CSL, TTL, List.mem_cons, List.not_mem_nil, or_false] at hp; rcases hp with rfl | rfl; all_goals first | exact ta0 | exact ta1
  · intro p hp; simp only [CSL, TTL, List.mem_cons, List.not_mem_nil, or_false] at hp; rcases hp with rfl | rfl; all_goals first | exact tb0 | exact tb1
  · intro p hp; simp only [CSL, TTL, List.mem_cons, List.not_mem_nil, or_false] at hp; rcases hp with rfl | rfl; all_goals first | exact ⟨_, List.mem_cons_self, rfl⟩ | exact ⟨_, (List.mem_cons_of_mem _ List.mem_cons_self), rfl⟩
  · refine { cl := fun c x e => ?_, con := fun x d e => ?_, cau := fun _ => cauI_of (CS := 24) (cas := caL) cau (fun _ => rfl) rfl ex, no := fun x hx => blt x (List.mem_append_left _ hx), ty := fun t x e => ?_, fldN := rfl, fld := fun n c e => ?_, cx := fun f e => ?_ }
    · exact AllI.get0 (P := fun c x => ClI ⟨PySem.Challenge.rw_leastswaps_k03_whole_codes_and_numbers.prog, w, K, mg, base, faF, caF, fldT, TTL⟩ c x) (l := tab.cls) ⟨clI_plain (c := 0) (clsAt_of X G C0) x0 rfl, clI_init (c := 1) (clsAt_of X G C1) rfl I1, clI_plain (c := 2) (clsAt_of X G C2) x2 rfl, clI_plain (c := 3) (clsAt_of X G C3) x3 rfl, True.intro⟩ e
    · have m := look_mem e
      simp only [tab, List.mem_cons, List.not_mem_nil, or_false, Prod.mk.injEq] at m
      rcases m with ⟨rfl, rfl⟩ | ⟨rfl, rfl⟩ | ⟨rfl, rfl⟩
      · exact con_int X G k0
      · exact con_fn (k := 16) F16.mg
      · exact con_fn (k := 12) F12.mg
    · simp only [tab, List.mem_cons, List.not_mem_nil, or_false, Prod.mk.injEq] at e
      rcases e with ⟨rfl, rfl⟩ | ⟨rfl, rfl⟩ | ⟨rfl, rfl⟩ | ⟨rfl, rfl⟩ | ⟨rfl, rfl⟩ | ⟨rfl, rfl⟩
      · exact ty_blt (fun c z => by cases z) (blt _ (by decide)) rfl (by decide)
      · exact ty_blt (fun c z => by cases z) (blt _ (by decide)) rfl (by decide)
      · exact ty_blt (fun c z => by cases z) (blt _ (by decide)) rfl (by decide)
      · exact ty_cls (tyI_of (mg := mg) (cas := caL) (fun _ => rfl) clA rfl rfl (fun c r q => by match c, q with | 0, q => exact q | 1, q => exact q | 2, q => exact q | 3, q => exact q | _ + 4, q => cases q) kt_BadNumber) (clsAt_of X G C1).mg
      · exact ty_cls (tyI_of (mg := mg) (cas := caL) (fun _ => rfl) clA rfl rfl (fun c r q => by match c, q with | 0, q => exact q | 1, q => exact q | 2, q => exact q | 3, q => exact q | _ + 4, q => cases q) kt_BadRow) (clsAt_of X G C2).mg
      · exact ty_cls (tyI_of (mg := mg) (cas := caL) (fun _ => rfl) clA rfl rfl (fun c r q => by match c, q with | 0, q => exact q | 1, q => exact q | 2, q => exact q | 3, q => exact q | _ + 4, q => cases q) kt_BadCode) (clsAt_of X G C3).mg
    · simp only [fldT] at e
      split at e <;> first | (simp at e; done) | skip
      · have en : n = ("part" : Str) := by simpa using e
        subst en
        exact ⟨(clsAt_of X G C1).xf, o1⟩
    · simp only [cfg, List.contains_cons, List.contains_nil, Bool.or_false, Bool.or_eq_true, beq_iff_eq] at e
      rcases e with rfl | rfl
      · exact ⟨_, rfl, rfl⟩
      · exact ⟨_, rfl, rfl⟩
  · intro f e he
    exact AllI.get0 (P := fun f e => ∃ fd, prog[f]? = some fd ∧ FnK ⟨PySem.Challenge.rw_leastswaps_k03_whole_codes_and_numbers.prog, w, K, mg, base, faF, caF, fldT, TTL⟩ tab f e fd) (l := tab.fns) ⟨⟨_, rfl, mk0 F0⟩, ⟨_, rfl, mk1 F1⟩, ⟨_, rfl, mk2 F2⟩, ⟨_, rfl, mk3 F3⟩, ⟨_, rfl, mk4 F4⟩, ⟨_, rfl, mk5 F5⟩, ⟨_, rfl, mk6 F6⟩, ⟨_, rfl, mk7 F7⟩, ⟨_, rfl, mk8 F8⟩, ⟨_, rfl, mk9 F9⟩, ⟨_, rfl, mk10 F10⟩, ⟨_, rfl, mk11 F11⟩, ⟨_, rfl, mk12 F12⟩, ⟨_, rfl, mk13 F13⟩, ⟨_, rfl, mk14 F14⟩, ⟨_, rfl, mk15 F15⟩, ⟨_, rfl, mk16 F16⟩, ⟨_, rfl, mk17 F17⟩, ⟨_, rfl, mk18 F18⟩, ⟨_, rfl, mk19 F19⟩, ⟨_, rfl, mk20 F20⟩, ⟨_, rfl, mk21 F21⟩, ⟨_, rfl, mk22 F22⟩, ⟨_, rfl, mk23 F23⟩, ⟨_, rfl, mk24 F24⟩, ⟨_, rfl, mk25 F25⟩, ⟨_, rfl, mk26 F26⟩, ⟨_, rfl, mk27 F27⟩, ⟨_, rfl, mk28 F28⟩, ⟨_, rfl, mk29 F29⟩, ⟨_, rfl, mk30 F30⟩, ⟨_, rfl, mk31 F31⟩, ⟨_, rfl, mk32 F32⟩, ⟨_, rfl, mk33 F33⟩, ⟨_, rfl, mk34 F34⟩, ⟨_, rfl, mk35 F35⟩, ⟨_, rfl, mk36 F36⟩, ⟨_, rfl, mk37 F37⟩, ⟨_, rfl, mk38 (b3 (329, 325) List.mem_cons_self) rfl rfl F38⟩, ⟨_, rfl, mk39 (b3 (336, 332) (List.mem_cons_of_mem _ List.mem_cons_self)) rfl rfl F39⟩, True.intro⟩ he
end K03
set_option Elab.async false
namespace K03
open PySem VM
theorem pure_ok : pure_law := fun ns h _ => law_ok (n := 5) (by omega)
end K03
set_option Elab.async false
open PySem PySem.W PyProof.Rows
set_option maxRecDepth 100000 in
set_option maxHeartbeats 0 in
theorem PySem.Challenge.cw_leastswaps_k03_whole_codes_and_numbers_holds : PySem.Challenge.rw_leastswaps_k03_whole_codes_and_numbers.Holds := by
  w_on; o_law; k_head; (case hw => w_witness2)
  k_fill
  refine VM.walk_ofV (n := 63) (x := "script") rfl (by decide) rfl ?F
  case F =>
    intro w mg fl h KX G hmg
    have F0 := VM.fnAt_mk (x := "is_number") (st := K03.topS 6) (f := 79) KX G (by k_is) (by k_is) (by k_is) (by k_is)
    have F1 := VM.fnAt_mk (x := "is_between") (st := K03.topS 7) (f := 86) KX G (by k_is) (by k_is) (by k_is) (by k_is)
    have F2 := VM.fnAt_mk (x := "need_between") (st := K03.topS 8) (f := 93) KX G (by k_is) (by k_is) (by k_is) (by k_is)
    have F3 := VM.fnAt_mk (x := "has_each") (st := K03.topS 11) (f := 98) KX G (by k_is) (by k_is) (by k_is) (by k_is)
    have F4 := VM.fnAt_mk (x := "is_row") (st := K03.topS 12) (f := 105) KX G (by k_is) (by k_is) (by k_is) (by k_is)
    have F5 := VM.fnAt_mk (x := "need_row") (st := K03.topS 13) (f := 112) KX G (by k_is) (by k_is) (by k_is) (by k_is)
    have F6 := VM.fnAt_mk (x := "need_seats") (st := K03.topS 14) (f := 119) KX G (by k_is) (by k_is) (by k_is) (by k_is)
    have F7 := VM.fnAt_mk (x := "length_told") (st := K03.topS 15) (f := 124) KX G (by k_is) (by k_is) (by k_is) (by k_is)
    have F8 := VM.fnAt_mk (x := "length_of") (st := K03.topS 16) (f := 131) KX G (by k_is) (by k_is) (by k_is) (by k_is)
    have F9 := VM.fnAt_mk (x := "falls_told") (st := K03.topS 17) (f := 136) KX G (by k_is) (by k_is) (by k_is) (by k_is)
    have F10 := VM.fnAt_mk (x := "falls_of") (st := K03.topS 18) (f := 143) KX G (by k_is) (by k_is) (by k_is) (by k_is)
    have F11 := VM.fnAt_mk (x := "code_told") (st := K03.topS 20) (f := 148) KX G (by k_is) (by k_is) (by k_is) (by k_is)
    have F12 := VM.fnAt_mk (x := "code_of") (st := K03.topS 21) (f := 155) KX G (by k_is) (by k_is) (by k_is) (by k_is)
    have F13 := VM.fnAt_mk (x := "is_code") (st := K03.topS 22) (f := 160) KX G (by k_is) (by k_is) (by k_is) (by k_is)
    have F14 := VM.fnAt_mk (x := "row_from") (st := K03.topS 23) (f := 167) KX G (by k_is) (by k_is) (by k_is) (by k_is)
    have F15 := VM.fnAt_mk (x := "row_of_code") (st := K03.topS 24) (f := 174) KX G (by k_is) (by k_is) (by k_is) (by k_is)
    have F16 := VM.fnAt_mk (x := "row_number") (st := K03.topS 25) (f := 181) KX G (by k_is) (by k_is) (by k_is) (by k_is)
    have F17 := VM.fnAt_mk (x := "factorial_of") (st := K03.topS 26) (f := 188) KX G (by k_is) (by k_is) (by k_is) (by k_is)
    have F18 := VM.fnAt_mk (x := "row_at") (st := K03.topS 27) (f := 195) KX G (by k_is) (by k_is) (by k_is) (by k_is)
    have F19 := VM.fnAt_mk (x := "_law_begun") (st := K03.topS 29) (f := 200) KX G (by k_is) (by k_is) (by k_is) (by k_is)
    have F20 := VM.fnAt_mk (x := "_law_mixed") (st := K03.topS 30) (f := 207) KX G (by k_is) (by k_is) (by k_is) (by k_is)
    have F21 := VM.fnAt_mk (x := "_law_take") (st := K03.topS 31) (f := 214) KX G (by k_is) (by k_is) (by k_is) (by k_is)
    have F22 := VM.fnAt_mk (x := "_law_pick") (st := K03.topS 32) (f := 221) KX G (by k_is) (by k_is) (by k_is) (by k_is)
    have F23 := VM.fnAt_mk (x := "_law_shuffled") (st := K03.topS 33) (f := 228) KX G (by k_is) (by k_is) (by k_is) (by k_is)
    have F24 := VM.fnAt_mk (x := "_law_says") (st := K03.topS 35) (f := 242) KX G (by k_is) (by k_is) (by k_is) (by k_is)
    have F25 := VM.fnAt_mk (x := "_law_is_number") (st := K03.topS 36) (f := 249) KX G (by k_is) (by k_is) (by k_is) (by k_is)
    have F26 := VM.fnAt_mk (x := "_law_row") (st := K03.topS 37) (f := 256) KX G (by k_is) (by k_is) (by k_is) (by k_is)
    have F27 := VM.fnAt_mk (x := "_law_mate") (st := K03.topS 38) (f := 263) KX G (by k_is) (by k_is) (by k_is) (by k_is)
    have F28 := VM.fnAt_mk (x := "_law_is_row") (st := K03.topS 39) (f := 268) KX G (by k_is) (by k_is) (by k_is) (by k_is)
    have F29 := VM.fnAt_mk (x := "_law_no_row") (st := K03.topS 40) (f := 273) KX G (by k_is) (by k_is) (by k_is) (by k_is)
    have F30 := VM.fnAt_mk (x := "_law_word") (st := K03.topS 41) (f := 280) KX G (by k_is) (by k_is) (by k_is) (by k_is)
    have F31 := VM.fnAt_mk (x := "_law_code") (st := K03.topS 42) (f := 285) KX G (by k_is) (by k_is) (by k_is) (by k_is)
    have F32 := VM.fnAt_mk (x := "_law_is_code") (st := K03.topS 43) (f := 290) KX G (by k_is) (by k_is) (by k_is) (by k_is)
    have F33 := VM.fnAt_mk (x := "_law_of_code") (st := K03.topS 44) (f := 297) KX G (by k_is) (by k_is) (by k_is) (by k_is)
    have F34 := VM.fnAt_mk (x := "_law_number") (st := K03.topS 45) (f := 304) KX G (by k_is) (by k_is) (by k_is) (by k_is)
    have F35 := VM.fnAt_mk (x := "_law_times") (st := K03.topS 46) (f := 311) KX G (by k_is) (by k_is) (by k_is) (by k_is)
    have F36 := VM.fnAt_mk (x := "_law_right") (st := K03.topS 47) (f := 316) KX G (by k_is) (by k_is) (by k_is) (by k_is)
    have F37 := VM.fnAt_mk (x := "_law_two_right") (st := K03.topS 48) (f := 323) KX G (by k_is) (by k_is) (by k_is) (by k_is)
    have F38 := VM.fnAt_mk (x := "_law_near_right") (st := K03.topS 49) (f := 330) KX G (by k_is) (by k_is) (by k_is) (by k_is)
    have F39 := VM.fnAt_mk (x := "law") (st := K03.topS 50) (f := 337) KX G (by k_is) (by k_is) (by k_is) (by k_is)
    have T1 := VM.oexC_mk (C := 46) KX (by k_is) (by kernel_rfl) (by k_is) (by k_is) (by k_is) (by k_is)
    have l1 := VM.prl KX (f := 43) (by k_is)
    have I1 := VM.initC_mk (P := PySem.Challenge.pw_leastswaps_k03_whole_codes_and_numbers) (C := 46) (fI := 43) (f := "part") (x := "part") T1 (by k_is) l1 (by k_is) (by k_is) (by rfl) (by kernel_rfl) (by k_is) (by k_is) (by k_is) (by kernel_rfl) (by k_is) (by k_is) (by k_is) (by k_is) (by kernel_rfl) (by rfl) (by rfl) (by decide) (by decide) (by decide) (fun _ _ => rfl) (by decide) (by rfl) (by rfl) (by rfl) (by rfl) (by rfl) (by rfl) (by rfl) (fun _ => ⟨_, rfl⟩)
    have cau := VM.cauAt_mk (x := "_law_caught") (g := 235) KX G (by k_is) (by k_is) (by k_is) (by k_is) (by k_is) (by exact fun us hl => match us, hl with | [_], _ => rfl) (by exact ⟨rfl, rfl, rfl, by decide +kernel, rfl, by decide +kernel, by decide +kernel⟩) (by rfl) (by refine ⟨?_, ?_, ?_, ?_, ?_, ?_, ?_, ?_, ?_, ?_, ?_⟩ <;> first | rfl | decide +kernel)
    exact K03.fin KX G hmg F0 F1 F2 F3 F4 F5 F6 F7 F8 F9 F10 F11 F12 F13 F14 F15 F16 F17 F18 F19 F20 F21 F22 F23 F24 F25 F26 F27 F28 F29 F30 F31 F32 F33 F34 F35 F36 F37 F38 F39 (by kernel_rfl) (by kernel_rfl) (by kernel_rfl) I1 (by k_is) (by kernel_rfl) (by kernel_rfl) (by kernel_rfl) (by kernel_rfl) (by kernel_rfl) (by k_is) cau (by kernel_rfl) (by kernel_rfl) (by kernel_rfl) (by kernel_rfl) (by kernel_rfl) (by kernel_rfl) (by kernel_rfl) (by kernel_rfl) K03.pure_ok
