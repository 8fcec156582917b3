import PyProof.Rows.All
import Wide.All
import OpenK.AllK
import Wide.FinOn
import PyProof.EqAt
import PyProof.EqKinds
import PyProof.TupleCall
import HandS.ForMost
import HandS.TupAny
import HandS.IsInst
import HandS.Deep
import HandS.Style
import PyProof.NoPylong
import PyProof.Fits
import HandS.Wide
import PyProof.TupleOfGen
import PyProof.CollectStr
import PyProof.ListStr
import PyProof.CallStr
import HandS.Text
import HandS.Flow
import HandS.Walk
import HandS.ExcOwn
import PyProof.Rows.StrStep
import KE.KRevSl
import HandS.ExcIs
import HandS.TryMany
import HandS.Ends
import HandS.Words
import PyProof.Rows.ReprOcc
import PySem.Challenge.RW_chancewhole_k58_dice_that_beat
set_option Elab.async false
set_option linter.all false
set_option maxRecDepth 100000
set_option maxHeartbeats 4000000
/-! a small core language, its values and its interpreter -/
namespace Cw
abbrev D := PySem.PyData
abbrev Tx := PySem.Str
/-- no list, tuple or text that is made is longer -/
def cap : Nat := 1000000

/-- what an expression gives: data that never changes; the script; the state list; a list lent by a caller; the frame's own list, table, dict -/
inductive EV where
  | dat (d : D)
  | scr (ns : List Int)
  | st
  | bor (k : Nat)
  | own (xs : List D)
  | tab (xss : List (List D))
  | odi (t : Bool) (kvs : List (D × D))

abbrev Rho := List (Option EV)
/-- the lists lent to this frame -/
abbrev Lent := List (List D)
/-- the state list's items -/
abbrev Sta := List D

inductive Res (α : Type) where
  | ok (a : α) (S : Sta)
  | exc (c : Nat) (S : Sta)
  | bad
def Res.bind {α β : Type} (r : Res α) (f : α → Sta → Res β) : Res β :=
  match r with
  | .ok a S => f a S
  | .exc c S => .exc c S
  | .bad => .bad
/-- no exception leaves a comprehension -/
def Res.strict {α : Type} (r : Res α) : Res α :=
  match r with
  | .ok a S => .ok a S
  | _ => .bad
def Res.of {α : Type} (o : Option α) (S : Sta) : Res α :=
  match o with
  | some a => .ok a S
  | none => .bad

inductive Op2 where | add | sub | mul | fdiv | mod | pow
inductive Cmp where | eq | ne | lt | le | gt | ge | inn | nin | isx | isnt
inductive Ty where | int | bool | str | tuple | list
inductive Blt where | len | abs | int | str | list | tuple | max | min | sum
inductive Mth where | join
inductive Pat where
  | v (i : Nat)
  | t (ps : List Pat)

mutual
inductive Ex where
  | c (d : D)
  | g (k : Nat)
  | v (i : Nat)
  | tup (es : List Ex)
  | lst (es : List Ex)
  | bin (o : Op2) (a b : Ex)
  | neg (a : Ex)
  | not (a : Ex)
  | ands (es : List Ex)
  | ors (es : List Ex)
  | cmp (o : Cmp) (a b : Ex)
  | chn (o p : Cmp) (a b c : Ex)
  | ite (c a b : Ex)
  | sub (a i : Ex)
  | slc (a : Ex)
  | slcL (a lo : Ex)
  | slcH (a hi : Ex)
  | slcB (a lo hi : Ex)
  | rev (a : Ex)
  | call (f : Nat) (es : List Ex)
  | blt (f : Blt) (es : List Ex)
  | isi (a : Ex) (ts : List Ty) (one : Bool)
  | mth (m : Mth) (a : Ex) (es : List Ex)
  | mtd
  | lc (own : List Nat) (p : Pat) (s : Src) (cs : List Ex) (e : Ex)
  | lc2 (own own1 : List Nat) (p : Pat) (s : Src) (cs : List Ex) (p1 : Pat) (s1 : Src) (cs1 : List Ex) (e : Ex)
inductive Src where
  | val (e : Ex)
  | rng1 (a : Ex)
  | rng2 (a b : Ex)
  | enu (a : Ex)
  | zip (a b : Ex)
end

/-! ### values -/
def lstOf (B : Lent) : EV → Option (List D)
  | .dat (.list xs) => some xs
  | .own xs => some xs
  | .bor k => B[k]?
  | _ => none
def tupOf : EV → Option (List D)
  | .dat (.tuple xs) => some xs
  | _ => none
def seqOf (B : Lent) (e : EV) : Option (List D) :=
  match e with
  | .dat (.tuple xs) => some xs
  | e => lstOf B e
def datOf (B : Lent) (e : EV) : Option D :=
  match e with
  | .dat d => some d
  | e => (lstOf B e).map .list
def intOf : EV → Option Int
  | .dat (.int i) => some i
  | _ => none
def truth (B : Lent) (e : EV) : Option Bool :=
  match e with
  | .dat .none => some false
  | .dat (.bool b) => some b
  | .dat (.int i) => some (i != 0)
  | .dat (.str s) => if s.length ≤ cap then some ((s.length : Int) != 0) else none
  | .dat (.dict _) => none
  | e => (seqOf B e).map fun xs => !xs.isEmpty
def Ty.same : Ty → Ty → Bool
  | .int, .int => true
  | .bool, .bool => true
  | .bool, .int => true
  | .str, .str => true
  | .tuple, .tuple => true
  | .list, .list => true
  | _, _ => false
/-- is it of such a type: none if it is of a kind that is never asked -/
def tyIs (e : EV) (t : Ty) : Option Bool :=
  match e with
  | .dat .none => some false
  | .dat (.bool _) => some (Ty.same .bool t)
  | .dat (.int _) => some (Ty.same .int t)
  | .dat (.str _) => some (Ty.same .str t)
  | .dat (.tuple _) => some (Ty.same .tuple t)
  | .dat (.list _) => some (Ty.same .list t)
  | .dat (.dict _) => some false
  | .own _ => some (Ty.same .list t)
  | .bor _ => some (Ty.same .list t)
  | .st => some (Ty.same .list t)
  | _ => none
def tyAny (e : EV) : List Ty → Option Bool
  | [] => some false
  | t :: ts => (tyIs e t).bind fun b => (tyAny e ts).map fun c => b || c

/-- numbers that are multiplied and divided by are below 2 ^ 8000 -/
def fit (i : Int) : Bool := Nat.blt i.natAbs.log2 8000
def lenOk (n : Nat) : Bool := Nat.ble n cap

def binE (B : Lent) (o : Op2) (x y : EV) : Option EV :=
  match o, x, y with
  | .add, .dat (.int i), .dat (.int j) => some (.dat (.int (i + j)))
  | .add, .dat (.str i), .dat (.str j) => if lenOk (i.length + j.length) then some (.dat (.str (i ++ j))) else none
  | .add, .dat (.tuple i), .dat (.tuple j) => if lenOk (i.length + j.length) then some (.dat (.tuple (i ++ j))) else none
  | .add, x, y => (lstOf B x).bind fun i => (lstOf B y).bind fun j => if lenOk (i.length + j.length) then some (.dat (.list (i ++ j))) else none
  | .sub, .dat (.int i), .dat (.int j) => some (.dat (.int (i - j)))
  | .mul, .dat (.int i), .dat (.int j) => if fit i && fit j then some (.dat (.int (i * j))) else none
  | .fdiv, .dat (.int i), .dat (.int j) => if j != 0 && fit j then some (.dat (.int (i.fdiv j))) else none
  | .mod, .dat (.int i), .dat (.int j) => if j != 0 then some (.dat (.int (i.fmod j))) else none
  | .pow, .dat (.int i), .dat (.int j) => if decide (0 ≤ j) && decide (j ≤ 1000) && decide (i.natAbs ≤ 1000) then some (.dat (.int (i ^ j.toNat))) else none
  | _, _, _ => none
def eqE (B : Lent) (x y : EV) : Option Bool :=
  (datOf B x).bind fun d => (datOf B y).bind fun e => if PySem.SeqAt.shaped d && PySem.SeqAt.shaped e then some (PySem.PyData.eqv d e) else none
def inE (B : Lent) (x y : EV) : Option Bool :=
  match x, y with
  | .dat (.str i), .dat (.str j) => some (!(PySem.Builtin.Str.occurrences j i 0 j.length 1).isEmpty)
  | x, y => (datOf B x).bind fun d => (seqOf B y).bind fun ds => if PySem.SeqAt.shaped d && PySem.SeqAt.shaped (.list ds) then some (ds.any fun z => PySem.PyData.eqv z d) else none
def ordE (x y : EV) (f : Int → Int → Bool) : Option Bool := (intOf x).bind fun i => (intOf y).map fun j => f i j
def isE (x y : EV) : Option Bool :=
  match x, y with
  | .dat .none, .dat .none => some true
  | _, .dat .none => some false
  | .dat (.bool a), .dat (.bool b) => some (a == b)
  | _, _ => none
def cmpE (B : Lent) (o : Cmp) (x y : EV) : Option Bool :=
  match o with
  | .eq => eqE B x y
  | .ne => (eqE B x y).map (!·)
  | .lt => ordE x y fun i j => decide (i < j)
  | .le => ordE x y fun i j => decide (i ≤ j)
  | .gt => ordE x y fun i j => decide (j < i)
  | .ge => ordE x y fun i j => decide (j ≤ i)
  | .inn => inE B x y
  | .nin => (inE B x y).map (!·)
  | .isx => isE x y
  | .isnt => (isE x y).map (!·)
def subE (B : Lent) (S : Sta) (x y : EV) : Option EV :=
  match x, y with
  | .st, .dat (.int i) => (L2.atI S i).map .dat
  | .tab xss, .dat (.int i) => (L2.atI xss i).map .own
  | .dat (.str s), .dat (.int i) => if lenOk s.length then (L2.atI s.cps.toList i).map fun c => .dat (.str ⟨#[c]⟩) else none
  | x, .dat (.int i) => (seqOf B x).bind fun xs => (L2.atI xs i).map .dat
  | _, _ => none
def cutL {α : Type} (xs : List α) (lo hi : Option Int) : List α := (xs.drop (HT.sIx xs.length 0 lo)).take (HT.sIx xs.length xs.length hi - HT.sIx xs.length 0 lo)
def slcE (B : Lent) (x : EV) (lo hi : Option Int) : Option EV :=
  match x with
  | .dat (.str s) => if lenOk s.length then some (.dat (.str (L2.cutS s lo hi))) else none
  | .dat (.tuple xs) => some (.dat (.tuple (cutL xs lo hi)))
  | x => (lstOf B x).map fun xs => .dat (.list (cutL xs lo hi))
def revE (B : Lent) (x : EV) : Option EV :=
  match x with
  | .dat (.str s) => if lenOk s.length then some (.dat (.str ⟨s.cps.reverse⟩)) else none
  | .dat (.tuple xs) => some (.dat (.tuple xs.reverse))
  | x => (lstOf B x).map fun xs => .dat (.list xs.reverse)
/-- a text's signs -/
def signs (s : Tx) : List D := s.cps.toList.map fun c => .str ⟨#[c]⟩
def intsOf : List D → Option (List Int)
  | [] => some []
  | .int i :: r => (intsOf r).map (i :: ·)
  | _ :: _ => none
def strsOf : List D → Option (List Tx)
  | [] => some []
  | .str i :: r => (strsOf r).map (i :: ·)
  | _ :: _ => none
def bltE (B : Lent) (S : Sta) (f : Blt) (xs : List EV) : Option EV :=
  match f, xs with
  | .len, [.dat (.str s)] => if lenOk s.length then some (.dat (.int (s.length : Nat))) else none
  | .len, [x] => (seqOf B x).map fun ys => .dat (.int (ys.length : Nat))
  | .abs, [.dat (.int i)] => some (.dat (.int (if i < 0 then -i else i)))
  | .int, [.dat (.int i)] => some (.dat (.int i))
  | .int, [.dat (.bool b)] => some (.dat (.int (if b then 1 else 0)))
  | .str, [.dat (.int i)] => if Nat.blt i.natAbs.log2 1920 then some (.dat (.str (PySem.Str.ofString (toString i)))) else none
  | .str, [.dat .none] => some (.dat (.str (PySem.Str.ofString "None")))
  | .list, [.scr ns] => some (.dat (.list (ns.map .int)))
  | .list, [x] => (seqOf B x).map fun ys => .dat (.list ys)
  | .tuple, [.dat (.str s)] => if lenOk s.length then some (.dat (.tuple (signs s))) else none
  | .tuple, [x] => (seqOf B x).map fun ys => .dat (.tuple ys)
  | .max, [.dat (.int i), .dat (.int j)] => some (.dat (.int (if j > i then j else i)))
  | .min, [.dat (.int i), .dat (.int j)] => some (.dat (.int (if j < i then j else i)))
  | .sum, [x] => (lstOf B x).bind fun ys => (intsOf ys).map fun ns => .dat (.int ns.sum)
  | _, _ => none
def dats : List EV → Option (List D)
  | [] => some []
  | .dat d :: r => (dats r).map (d :: ·)
  | _ :: _ => none
def lenAll : List Tx → Nat
  | [] => 0
  | x :: r => x.length + lenAll r
def mthE (B : Lent) (m : Mth) (x : EV) (ys : List EV) : Option EV :=
  match m, x, ys with
  | .join, .dat (.str s), [y] => (seqOf B y).bind fun zs => (strsOf zs).bind fun ts => if lenOk (lenAll ts + s.length * ts.length) then some (.dat (.str (PySem.Str.join s ts))) else none
  | _, _, _ => none
/-- what a callee gets: an own list is lent -/
def passA (B : Lent) : Nat → List EV → Option (List EV × Lent)
  | _, [] => some ([], [])
  | n, .dat d :: r => (passA B n r).map fun p => (.dat d :: p.1, p.2)
  | n, .st :: r => (passA B n r).map fun p => (.st :: p.1, p.2)
  | n, .own xs :: r => (passA B (n + 1) r).map fun p => (.bor n :: p.1, xs :: p.2)
  | n, .bor k :: r => (B[k]?).bind fun xs => (passA B (n + 1) r).map fun p => (.bor n :: p.1, xs :: p.2)
  | _, _ => none
/-! ### patterns -/
mutual
def bindP : Pat → D → Rho → Option Rho
  | .v i, d, ρ => some (ρ.set i (some (.dat d)))
  | .t ps, .tuple ds, ρ => bindPs ps ds ρ
  | .t _, _, _ => none
def bindPs : List Pat → List D → Rho → Option Rho
  | [], [], ρ => some ρ
  | p :: ps, d :: ds, ρ => (bindP p d ρ).bind fun ρ' => bindPs ps ds ρ'
  | _, _, _ => none
end
def wipeR (ρ : Rho) : List Nat → Rho
  | [] => ρ
  | v :: vs => (wipeR ρ vs).set v none

/-! ### the module's constants -/
def gname : Nat → Tx
  | 0 => PySem.Str.ofString "ZERO"
  | 1 => PySem.Str.ofString "ONE"
  | 2 => PySem.Str.ofString "MOST_STATES"
  | _ => PySem.Str.ofString "MOST_RULES"
def gval : Nat → D
  | 0 => .tuple [.int 0, .int 1]
  | 1 => .tuple [.int 1, .int 1]
  | 2 => .int 10
  | _ => .int 400

/-! ### expressions -/
abbrev CallF := Nat → List EV → Lent → Sta → Res D
def partOf : EV → Option (Option Int)
  | .dat (.int i) => some (some i)
  | _ => none
/-- a comprehension's loop -/
def lcLoop (bind : D → Rho → Option Rho) (cond : Rho → Sta → Res Bool) (elt : Rho → Sta → Res EV) (ρ : Rho) : List D → Sta → Res (List D)
  | [], S => .ok [] S
  | x :: xs, S =>
    match bind x ρ with
    | none => .bad
    | some ρ' =>
      (cond ρ' S).bind fun b S1 =>
        if b then (elt ρ' S1).bind fun v S2 =>
          match v with
          | .dat d => (lcLoop bind cond elt ρ xs S2).bind fun ds S3 => .ok (d :: ds) S3
          | _ => .bad
        else lcLoop bind cond elt ρ xs S1
/-- .. whose turn gives a list of items -/
def lcFlat (bind : D → Rho → Option Rho) (cond : Rho → Sta → Res Bool) (turn : Rho → Sta → Res (List D)) (ρ : Rho) : List D → Sta → Res (List D)
  | [], S => .ok [] S
  | x :: xs, S =>
    match bind x ρ with
    | none => .bad
    | some ρ' =>
      (cond ρ' S).bind fun b S1 =>
        if b then (turn ρ' S1).bind fun ds S2 => (lcFlat bind cond turn ρ xs S2).bind fun es S3 => .ok (ds ++ es) S3
        else lcFlat bind cond turn ρ xs S1
def enumL : Nat → List D → List D
  | _, [] => []
  | n, x :: xs => .tuple [.int (n : Nat), x] :: enumL (n + 1) xs
def zipL : List D → List D → List D
  | x :: xs, y :: ys => .tuple [x, y] :: zipL xs ys
  | _, _ => []
def rngL (lo : Int) : Nat → List D
  | 0 => []
  | n + 1 => .int lo :: rngL (lo + 1) n
def small62 (i : Int) : Bool := decide (-1000000000 ≤ i) && decide (i ≤ 1000000000)
/-- a value that no statement of the frame changes -/
def stab : EV → Bool
  | .dat _ => true
  | .bor _ => true
  | _ => false
def stabL (st : Bool) (v : EV) (o : Option (List D)) : Option (List D) := if !st || stab v then o else none
/-- the items that a source gives -/
def srcItems (B : Lent) : EV → Option (List D)
  | .dat (.str s) => some (signs s)
  | e => seqOf B e
def rng1Of (v : EV) : Option (List D) := (intOf v).bind fun j => if small62 j then some (rngL 0 j.toNat) else none
def rng2Of (v w : EV) : Option (List D) := (intOf v).bind fun i => (intOf w).bind fun j => if small62 i && small62 j then some (rngL i (j - i).toNat) else none
mutual
def eE (cf : CallF) (B : Lent) : Ex → Rho → Sta → Res EV
  | .c d, _, S => .ok (.dat d) S
  | .g k, _, S => .ok (.dat (gval k)) S
  | .v i, ρ, S =>
    match ρ[i]? with
    | some (some e) => .ok e S
    | _ => .bad
  | .tup es, ρ, S => (eEs cf B es ρ S).bind fun vs S1 => Res.of ((dats vs).bind fun ds => if lenOk ds.length then some (.dat (.tuple ds)) else none) S1
  | .lst es, ρ, S => (eEs cf B es ρ S).bind fun vs S1 => Res.of ((dats vs).bind fun ds => if lenOk ds.length then some (.dat (.list ds)) else none) S1
  | .bin o a b, ρ, S => (eE cf B a ρ S).bind fun x S1 => (eE cf B b ρ S1).bind fun y S2 => Res.of (binE B o x y) S2
  | .neg a, ρ, S => (eE cf B a ρ S).bind fun x S1 => Res.of ((intOf x).map fun i => .dat (.int (-i))) S1
  | .not a, ρ, S => (eE cf B a ρ S).bind fun x S1 => Res.of ((truth B x).map fun b => .dat (.bool (!b))) S1
  | .ands es, ρ, S => eAnds cf B es ρ S
  | .ors es, ρ, S => eOrs cf B es ρ S
  | .cmp o a b, ρ, S => (eE cf B a ρ S).bind fun x S1 => (eE cf B b ρ S1).bind fun y S2 => Res.of ((cmpE B o x y).map fun b => .dat (.bool b)) S2
  | .chn o p a b c, ρ, S => (eE cf B a ρ S).bind fun x S1 => (eE cf B b ρ S1).bind fun y S2 => (Res.of (cmpE B o x y) S2).bind fun k S3 =>
      if k then (eE cf B c ρ S3).bind fun z S4 => Res.of ((cmpE B p y z).map fun b => .dat (.bool b)) S4 else .ok (.dat (.bool false)) S3
  | .ite c a b, ρ, S => (eE cf B c ρ S).bind fun x S1 => (Res.of (truth B x) S1).bind fun k S2 => if k then eE cf B a ρ S2 else eE cf B b ρ S2
  | .sub a i, ρ, S => (eE cf B a ρ S).bind fun x S1 => (eE cf B i ρ S1).bind fun y S2 => Res.of (subE B S2 x y) S2
  | .slc a, ρ, S => (eE cf B a ρ S).bind fun x S1 => Res.of (slcE B x none none) S1
  | .slcL a lo, ρ, S => (eE cf B a ρ S).bind fun x S1 => (eE cf B lo ρ S1).bind fun l S2 => Res.of ((intOf l).bind fun i => slcE B x (some i) none) S2
  | .slcH a hi, ρ, S => (eE cf B a ρ S).bind fun x S1 => (eE cf B hi ρ S1).bind fun h S2 => Res.of ((intOf h).bind fun j => slcE B x none (some j)) S2
  | .slcB a lo hi, ρ, S => (eE cf B a ρ S).bind fun x S1 => (eE cf B lo ρ S1).bind fun l S2 => (Res.of (intOf l) S2).bind fun i S3 => (eE cf B hi ρ S3).bind fun h S4 => Res.of ((intOf h).bind fun j => slcE B x (some i) (some j)) S4
  | .rev a, ρ, S => (eE cf B a ρ S).bind fun x S1 => Res.of (revE B x) S1
  | .call f es, ρ, S => (eEs cf B es ρ S).bind fun vs S1 => (Res.of (passA B 0 vs) S1).bind fun p S2 => (cf f p.1 p.2 S2).bind fun d S3 => .ok (.dat d) S3
  | .blt f es, ρ, S => (eEs cf B es ρ S).bind fun vs S1 => Res.of (bltE B S1 f vs) S1
  | .isi a ts _, ρ, S => (eE cf B a ρ S).bind fun x S1 => Res.of ((tyAny x ts).map fun b => .dat (.bool b)) S1
  | .mth m a es, ρ, S => (eE cf B a ρ S).bind fun x S1 => (eEs cf B es ρ S1).bind fun vs S2 => Res.of (mthE B m x vs) S2
  | .mtd, _, S => .ok (.dat (.dict [])) S
  | .lc own p s cs e, ρ, S => (eSrc cf B false s ρ S).bind fun xs S1 =>
      (lcLoop (bindP p) (fun r T => eCs cf B cs r T) (fun r T => eE cf B e r T) (wipeR ρ own) xs S1).strict.bind fun ds S2 => if lenOk ds.length then .ok (.dat (.list ds)) S2 else .bad
  | .lc2 own own1 p s cs p1 s1 cs1 e, ρ, S => (eSrc cf B false s ρ S).bind fun xs S1 =>
      (lcFlat (bindP p) (fun r T => eCs cf B cs r T)
        (fun r T => (eSrc cf B true s1 r T).bind fun ys T1 => lcLoop (bindP p1) (fun r T => eCs cf B cs1 r T) (fun r T => eE cf B e r T) (wipeR r own1) ys T1)
        (wipeR ρ own) xs S1).strict.bind fun ds S2 => if lenOk ds.length then .ok (.dat (.list ds)) S2 else .bad
def eEs (cf : CallF) (B : Lent) : List Ex → Rho → Sta → Res (List EV)
  | [], _, S => .ok [] S
  | e :: es, ρ, S => (eE cf B e ρ S).bind fun v S1 => (eEs cf B es ρ S1).bind fun vs S2 => .ok (v :: vs) S2
def eAnds (cf : CallF) (B : Lent) : List Ex → Rho → Sta → Res EV
  | [], _, _ => .bad
  | [e], ρ, S => eE cf B e ρ S
  | e :: e2 :: es, ρ, S => (eE cf B e ρ S).bind fun v S1 => (Res.of (truth B v) S1).bind fun k S2 => if k then eAnds cf B (e2 :: es) ρ S2 else .ok v S2
def eOrs (cf : CallF) (B : Lent) : List Ex → Rho → Sta → Res EV
  | [], _, _ => .bad
  | [e], ρ, S => eE cf B e ρ S
  | e :: e2 :: es, ρ, S => (eE cf B e ρ S).bind fun v S1 => (Res.of (truth B v) S1).bind fun k S2 => if k then .ok v S2 else eOrs cf B (e2 :: es) ρ S2
/-- a comprehension's tests -/
def eCs (cf : CallF) (B : Lent) : List Ex → Rho → Sta → Res Bool
  | [], _, S => .ok true S
  | [e], ρ, S => (eE cf B e ρ S).bind fun v S1 => Res.of (truth B v) S1
  | _ :: _ :: _, _, _ => .bad
/-- what a loop walks -/
def eSrc (cf : CallF) (B : Lent) (st : Bool) : Src → Rho → Sta → Res (List D)
  | .rng1 a, ρ, S => (eE cf B a ρ S).bind fun v S1 => Res.of (rng1Of v) S1
  | .rng2 a b, ρ, S => (eE cf B a ρ S).bind fun v S1 => (eE cf B b ρ S1).bind fun w S2 => Res.of (rng2Of v w) S2
  | .enu a, ρ, S => (eE cf B a ρ S).bind fun v S1 => Res.of (stabL st v ((lstOf B v).map (enumL 0))) S1
  | .zip a b, ρ, S => (eE cf B a ρ S).bind fun v S1 => (eE cf B b ρ S1).bind fun w S2 => Res.of (stabL st v (stabL st w ((seqOf B v).bind fun xs => (seqOf B w).map fun ys => zipL xs ys))) S2
  | .val e, ρ, S => (eE cf B e ρ S).bind fun v S1 => Res.of (stabL st v (srcItems B v)) S1
end

/-! ### statements -/
inductive Fuel where
  | slot (i : Nat)
  | num (n : Nat)
inductive Sm where
  | ex (e : Ex)
  | set (i : Nat) (e : Ex)
  | own (i : Nat) (e : Ex)
  | frz (i : Nat)
  | par2 (i j : Nat) (a b : Ex)
  | unp (ps : List Pat) (e : Ex)
  | sit (i : Nat) (k e : Ex)
  | augs (i k : Nat) (e : Ex)
  | aug (i : Nat) (e : Ex)
  | app (i : Nat) (e : Ex)
  | ite (c : Ex) (a b : List Sm)
  | for (p : Pat) (s : Src) (b : List Sm)
  | whl (m : Fuel) (c : Ex) (b : List Sm)
  | ret (e : Ex)
  | rse (c : Nat)
  | brk
  | cnt
  | tryA (b : List Sm) (c i : Nat)
  | tryB (b : List Sm) (c1 c2 i : Nat)
inductive Out where
  | nx (ρ : Rho) (S : Sta)
  | rt (d : D) (S : Sta)
  | bk (ρ : Rho) (S : Sta)
  | ct (ρ : Rho) (S : Sta)
  | exc (c : Nat) (ρ : Rho) (S : Sta)
  | bad
def Out.seq (o : Out) (f : Rho → Sta → Out) : Out :=
  match o with
  | .nx ρ S => f ρ S
  | o => o
/-- behind an expression: its exception leaves with the slots as they are -/
def Res.out {α : Type} (r : Res α) (ρ : Rho) (f : α → Sta → Out) : Out :=
  match r with
  | .ok a S => f a S
  | .exc c S => .exc c ρ S
  | .bad => .bad
def fuelOf (ρ : Rho) : Fuel → Nat
  | .num n => n
  | .slot i => match ρ[i]? with
    | some (some (.dat (.int k))) => k.natAbs + 2
    | _ => 0
def forL (bind : D → Rho → Option Rho) (body : Rho → Sta → Out) : List D → Rho → Sta → Out
  | [], ρ, S => .nx ρ S
  | x :: xs, ρ, S =>
    match bind x ρ with
    | none => .bad
    | some ρ1 =>
      match body ρ1 S with
      | .nx ρ2 S2 => forL bind body xs ρ2 S2
      | .ct ρ2 S2 => forL bind body xs ρ2 S2
      | .bk ρ2 S2 => .nx ρ2 S2
      | o => o
def whlL (cond : Rho → Sta → Res Bool) (body : Rho → Sta → Out) : Nat → Rho → Sta → Out
  | 0, _, _ => .bad
  | n + 1, ρ, S => (cond ρ S).out ρ fun b S1 =>
      if b then
        match body ρ S1 with
        | .nx ρ2 S2 => whlL cond body n ρ2 S2
        | .ct ρ2 S2 => whlL cond body n ρ2 S2
        | .bk ρ2 S2 => .nx ρ2 S2
        | o => o
      else .nx ρ S1
def slotE (ρ : Rho) (i : Nat) : Option EV := (ρ[i]?).bind id
/-- x[k] = d, x in a slot: what x is then, and the state list -/
def setE (S : Sta) (x k : EV) (d : D) : Option (EV × Sta) :=
  match x, k with
  | .st, .dat (.int i) => (L2.ixN S.length i).map fun j => (.st, S.set j d)
  | .own xs, .dat (.int i) => (L2.ixN xs.length i).map fun j => (.own (xs.set j d), S)
  | _, _ => none
/-- the number at k -/
def getN (S : Sta) (x : EV) (k : Nat) : Option Int :=
  if k < 1000 then
    match x with
    | .st => (S[k]?).bind fun d => intOf (.dat d)
    | .own xs => (xs[k]?).bind fun d => intOf (.dat d)
    | _ => none
  else none
def ownX (x : EV) : Option (List D) :=
  match x with
  | .own xs => some xs
  | _ => none
def ownE : EV → Option EV
  | .dat (.list xs) => some (.own xs)
  | _ => none
def frzE : EV → Option EV
  | .own xs => some (.dat (.list xs))
  | _ => none
def datE : EV → Option D
  | .dat d => some d
  | _ => none
/-- what may be kept in a slot as it is given -/
def keepE : EV → Option EV
  | .dat d => some (.dat d)
  | .bor k => some (.bor k)
  | .st => some .st
  | _ => none
mutual
def xS (cf : CallF) (B : Lent) : Sm → Rho → Sta → Out
  | .ex e, ρ, S => (eE cf B e ρ S).out ρ fun _ S1 => .nx ρ S1
  | .set i e, ρ, S => (eE cf B e ρ S).out ρ fun v S1 => (Res.of (keepE v) S1).out ρ fun w S2 => .nx (ρ.set i (some w)) S2
  | .own i e, ρ, S => (eE cf B e ρ S).out ρ fun v S1 => (Res.of (ownE v) S1).out ρ fun w S2 => .nx (ρ.set i (some w)) S2
  | .frz i, ρ, S => (Res.of ((slotE ρ i).bind frzE) S).out ρ fun w S1 => .nx (ρ.set i (some w)) S1
  | .par2 i j a b, ρ, S => (eE cf B a ρ S).out ρ fun v S1 => (eE cf B b ρ S1).out ρ fun w S2 =>
      (Res.of ((datE v).bind fun d => (datE w).map fun e => (d, e)) S2).out ρ fun p S3 => .nx ((ρ.set i (some (.dat p.1))).set j (some (.dat p.2))) S3
  | .unp ps e, ρ, S => (eE cf B e ρ S).out ρ fun v S1 => (Res.of ((datE v).bind fun d => bindP (.t ps) d ρ) S1).out ρ fun ρ' S2 => .nx ρ' S2
  | .sit i k e, ρ, S => (eE cf B e ρ S).out ρ fun v S1 => (Res.of ((datE v).bind fun d => (slotE ρ i).map fun x => (d, x)) S1).out ρ fun q S2 => (eE cf B k ρ S2).out ρ fun w S3 =>
      (Res.of (setE S3 q.2 w q.1) S3).out ρ fun p _ => .nx (ρ.set i (some p.1)) p.2
  | .augs i k e, ρ, S => (Res.of ((slotE ρ i).bind fun x => (getN S x k).map fun a => (a, x)) S).out ρ fun q S1 => (eE cf B e ρ S1).out ρ fun y S2 =>
      (Res.of ((intOf y).bind fun b => setE S2 q.2 (.dat (.int k)) (.int (q.1 + b))) S2).out ρ fun p _ => .nx (ρ.set i (some p.1)) p.2
  | .aug i e, ρ, S => (Res.of ((slotE ρ i).bind intOf) S).out ρ fun a S1 => (eE cf B e ρ S1).out ρ fun y S2 => (Res.of (intOf y) S2).out ρ fun b S3 => .nx (ρ.set i (some (.dat (.int (a + b))))) S3
  | .app i e, ρ, S => (Res.of ((slotE ρ i).bind ownX) S).out ρ fun xs S1 => (eE cf B e ρ S1).out ρ fun v S2 => (Res.of ((datE v).bind fun d => if lenOk (xs.length + 1) then some d else none) S2).out ρ fun d S3 => .nx (ρ.set i (some (.own (xs ++ [d])))) S3
  | .ite c a b, ρ, S => (eE cf B c ρ S).out ρ fun v S1 => (Res.of (truth B v) S1).out ρ fun k S2 => if k then xSs cf B a ρ S2 else xSs cf B b ρ S2
  | .for p s b, ρ, S => (eSrc cf B true s ρ S).out ρ fun xs S1 => forL (bindP p) (fun r T => xSs cf B b r T) xs ρ S1
  | .whl m c b, ρ, S => whlL (fun r T => (eE cf B c r T).bind fun v T1 => Res.of (truth B v) T1) (fun r T => xSs cf B b r T) (fuelOf ρ m) ρ S
  | .ret e, ρ, S => (eE cf B e ρ S).out ρ fun v S1 => (Res.of (datE v) S1).out ρ fun d S2 => .rt d S2
  | .rse c, ρ, S => .exc c ρ S
  | .brk, ρ, S => .bk ρ S
  | .cnt, ρ, S => .ct ρ S
  | .tryA b c i, ρ, S =>
    match xSs cf B b ρ S with
    | .exc c' ρ' S' => if c' == c then (if i < ρ'.length then .nx (ρ'.set i none) S' else .bad) else if Nat.blt c' 2 then .exc c' ρ' S' else .bad
    | o => o
  | .tryB b c1 c2 i, ρ, S =>
    match xSs cf B b ρ S with
    | .exc c' ρ' S' => if c' == c1 || c' == c2 then (if i < ρ'.length then .rt (.tuple []) S' else .bad) else .bad
    | o => o
def xSs (cf : CallF) (B : Lent) : List Sm → Rho → Sta → Out
  | [], ρ, S => .nx ρ S
  | s :: r, ρ, S => (xS cf B s ρ S).seq fun ρ1 S1 => xSs cf B r ρ1 S1
end
/-- a def: its name, its parameters' number, its names' number, its body -/
structure Fd where
  name : Tx
  np : Nat
  nn : Nat
  body : List Sm
def Out.fin : Out → Res D
  | .rt d S => .ok d S
  | .nx _ S => .ok .none S
  | .exc c _ S => .exc c S
  | _ => .bad
def run (Δ : List Fd) : Nat → CallF
  | 0 => fun _ _ _ _ => .bad
  | n + 1 => fun f vs B S =>
    match Δ[f]? with
    | none => .bad
    | some d => if vs.length == d.np then (xSs (run Δ n) B d.body (vs.map some ++ List.replicate (d.nn - d.np) none) S).fin else .bad
end Cw

namespace Cw
open PySem PySem.Spec PyProof.Rows L2

/-! ### data over a heap that never changes -/
mutual
inductive Rp (K : PySem.W.Frag) (G : Hp) : V → PyData → Prop where
  | non : Rp K G .non .none
  | bl (b : Bool) : Rp K G (.bl b) (.bool b)
  | int (i : Int) : Rp K G (.int i) (.int i)
  | str (x : Tx) : Rp K G (.str x) (.str x)
  | lst {a : Addr} {vs : List V} {ds : List PyData} : G a = some (.lst vs) → RpAll K G vs ds → Rp K G (.ref a) (.list ds)
  | tup {a : Addr} {vs : List V} {ds : List PyData} : SqT K G a vs → RpAll K G vs ds → Rp K G (.ref a) (.tuple ds)
  | dic0 {a : Addr} : G a = some (.dK []) → Rp K G (.ref a) (.dict [])
inductive RpAll (K : PySem.W.Frag) (G : Hp) : List V → List PyData → Prop where
  | nil : RpAll K G [] []
  | cons {v : V} {vs : List V} {d : PyData} {ds : List PyData} : Rp K G v d → RpAll K G vs ds → RpAll K G (v :: vs) (d :: ds)
end
abbrev Sub (G H : Hp) : Prop := ∀ a o, G a = some o → H a = some o
theorem sqT_sub {K : PySem.W.Frag} {G H : Hp} {a : Addr} {vs : List V} (s : Sub G H) (h : SqT K G a vs) : SqT K H a vs := by
  rcases h with (h | ⟨o, h⟩) | h
  · exact .inl (.inl (s _ _ h))
  · exact .inl (.inr ⟨o, s _ _ h⟩)
  · exact .inr h
theorem sqL_sub {K : PySem.W.Frag} {G H : Hp} {a : Addr} {vs : List V} (s : Sub G H) (h : SqL K G a vs) : SqL K H a vs := by
  rcases h with (h | ⟨o, h⟩) | h
  · exact .inl (.inl (s _ _ h))
  · exact .inl (.inr ⟨o, s _ _ h⟩)
  · exact .inr h
mutual
theorem Rp.sub {K : PySem.W.Frag} {G H : Hp} (s : Sub G H) : ∀ {v : V} {d : PyData}, Rp K G v d → Rp K H v d
  | _, _, .non => .non
  | _, _, .bl b => .bl b
  | _, _, .int i => .int i
  | _, _, .str x => .str x
  | _, _, .lst h r => .lst (s _ _ h) (RpAll.sub s r)
  | _, _, .tup h r => .tup (sqT_sub s h) (RpAll.sub s r)
  | _, _, .dic0 h => .dic0 (s _ _ h)
theorem RpAll.sub {K : PySem.W.Frag} {G H : Hp} (s : Sub G H) : ∀ {vs : List V} {ds : List PyData}, RpAll K G vs ds → RpAll K H vs ds
  | _, _, .nil => .nil
  | _, _, .cons h r => .cons (Rp.sub s h) (RpAll.sub s r)
end
section
variable {K : PySem.W.Frag} {G : Hp}
theorem RpAll.len : ∀ {vs : List V} {ds : List PyData}, RpAll K G vs ds → vs.length = ds.length
  | _, _, .nil => rfl
  | _, _, .cons _ r => by rw [List.length_cons, List.length_cons, RpAll.len r]
theorem RpAll.app : ∀ {vs ws : List V} {ds es : List PyData}, RpAll K G vs ds → RpAll K G ws es → RpAll K G (vs ++ ws) (ds ++ es)
  | _, _, _, _, .nil, s => s
  | _, _, _, _, .cons h r, s => .cons h (RpAll.app r s)
theorem RpAll.take : ∀ {vs : List V} {ds : List PyData} (n : Nat), RpAll K G vs ds → RpAll K G (vs.take n) (ds.take n)
  | _, _, 0, _ => .nil
  | _, _, _ + 1, .nil => .nil
  | _, _, n + 1, .cons h r => .cons h (RpAll.take n r)
theorem RpAll.drop : ∀ {vs : List V} {ds : List PyData} (n : Nat), RpAll K G vs ds → RpAll K G (vs.drop n) (ds.drop n)
  | _, _, 0, r => r
  | _, _, _ + 1, .nil => .nil
  | _, _, n + 1, .cons _ r => RpAll.drop n r
theorem RpAll.rev : ∀ {vs : List V} {ds : List PyData}, RpAll K G vs ds → RpAll K G vs.reverse ds.reverse
  | _, _, .nil => .nil
  | _, _, .cons h r => by
    rw [List.reverse_cons, List.reverse_cons]
    exact RpAll.app (RpAll.rev r) (.cons h .nil)
theorem RpAll.get : ∀ {vs : List V} {ds : List PyData} {i : Nat} {d : PyData}, RpAll K G vs ds → ds[i]? = some d → ∃ v, vs[i]? = some v ∧ Rp K G v d
  | _, _, _, _, .nil, e => by simp at e
  | _, _, 0, _, .cons h _, e => by
    simp at e
    subst e
    exact ⟨_, rfl, h⟩
  | _, _, i + 1, d, .cons _ r, e => by
    obtain ⟨v, h1, h2⟩ := RpAll.get (i := i) (d := d) r (by simpa using e)
    exact ⟨v, by simpa using h1, h2⟩
theorem RpAll.set {v : V} {d : PyData} (h : Rp K G v d) : ∀ {vs : List V} {ds : List PyData} (i : Nat), RpAll K G vs ds → RpAll K G (vs.set i v) (ds.set i d)
  | _, _, _, .nil => .nil
  | _, _, 0, .cons _ r => .cons h r
  | _, _, i + 1, .cons q r => .cons q (RpAll.set h i r)
theorem RpAll.ints : ∀ (ns : List Int), RpAll K G (ns.map V.int) (ns.map .int)
  | [] => .nil
  | n :: ns => .cons (.int n) (RpAll.ints ns)
theorem Rp.int_inv {v : V} {i : Int} (h : Rp K G v (.int i)) : v = .int i := by cases h; rfl
theorem Rp.str_inv {v : V} {x : Tx} (h : Rp K G v (.str x)) : v = .str x := by cases h; rfl
theorem Rp.bl_inv {v : V} {b : Bool} (h : Rp K G v (.bool b)) : v = .bl b := by cases h; rfl
theorem Rp.non_inv {v : V} (h : Rp K G v .none) : v = .non := by cases h; rfl
theorem Rp.tup_inv {v : V} {ds : List PyData} (h : Rp K G v (.tuple ds)) : ∃ a vs, v = .ref a ∧ SqT K G a vs ∧ RpAll K G vs ds := by
  cases h with
  | tup h r => exact ⟨_, _, rfl, h, r⟩
theorem Rp.lst_inv {v : V} {ds : List PyData} (h : Rp K G v (.list ds)) : ∃ a vs, v = .ref a ∧ G a = some (.lst vs) ∧ RpAll K G vs ds := by
  cases h with
  | lst h r => exact ⟨_, _, rfl, h, r⟩
mutual
/-- without dicts: the layer's own relation -/
theorem Rp.dp : ∀ {d : PyData} {v : V}, Rp K G v d → d.canLay0 = true → Dp K G v d
  | .none, _, h, _ => by rw [h.non_inv]; exact .non
  | .bool b, _, h, _ => by rw [h.bl_inv]; exact .bl b
  | .int i, _, h, _ => by rw [h.int_inv]; exact .int i
  | .str x, _, h, _ => by rw [h.str_inv]; exact .str x
  | .list ds, _, h, c => by
    obtain ⟨a, vs, rfl, h, r⟩ := h.lst_inv
    exact .lst (SqL.of h) (RpAll.dp r (by simpa [PyData.canLay0] using c))
  | .tuple ds, _, h, c => by
    obtain ⟨a, vs, rfl, h, r⟩ := h.tup_inv
    exact .tup h (RpAll.dp r (by simpa [PyData.canLay0] using c))
  | .dict _, _, _, c => by simp [PyData.canLay0] at c
theorem RpAll.dp : ∀ {ds : List PyData} {vs : List V}, RpAll K G vs ds → PyData.canLayAll0 ds = true → DpAll K G vs ds
  | [], _, h, _ => by cases h; exact .nil
  | d :: ds, _, h, c => by
    have c' : d.canLay0 = true ∧ PyData.canLayAll0 ds = true := by simpa [PyData.canLayAll0] using c
    cases h with
    | cons h r => exact .cons (Rp.dp h c'.1) (RpAll.dp r c'.2)
end
end
/-! ### the frame's relation -/
structure Fx where
  K : PySem.W.Frag
  sa : Addr
  ca : Nat → Addr
  al : List Addr
  B : Lent
/-- what an evaluation keeps: all that was tracked but the state list; the data; new data is new -/
structure Ext (sa : Addr) (G H G' H' : Hp) : Prop where
  keep : ∀ b o, H b = some o → b ≠ sa → H' b = some o
  there : ∀ b o, H b = some o → ∃ o', H' b = some o'
  data : Sub G G'
  new : ∀ b o, G' b = some o → G b = some o ∨ H b = none
theorem Ext.refl {sa : Addr} {G H : Hp} : Ext sa G H G H := ⟨fun _ _ h _ => h, fun _ o h => ⟨o, h⟩, fun _ _ h => h, fun _ _ h => .inl h⟩
theorem Ext.trans {sa : Addr} {G H G1 H1 G2 H2 : Hp} (x : Ext sa G H G1 H1) (y : Ext sa G1 H1 G2 H2) : Ext sa G H G2 H2 where
  keep := fun b o h n => y.keep b o (x.keep b o h n) n
  there := fun b o h => by
    obtain ⟨o1, h1⟩ := x.there b o h
    exact y.there b o1 h1
  data := fun a o h => y.data a o (x.data a o h)
  new := fun b o h => by
    rcases y.new b o h with h1 | h1
    · exact x.new b o h1
    · refine .inr ?_
      cases q : H b with
      | none => rfl
      | some u =>
        obtain ⟨u1, q1⟩ := x.there b u q
        rw [h1] at q1
        cases q1
structure Good (F : Fx) (G H : Hp) (S : Sta) : Prop where
  sub : Sub G H
  stn : G F.sa = none
  st : ∃ vs, H F.sa = some (.lst vs) ∧ RpAll F.K G vs S
  len : F.al.length = F.B.length
  bor : ∀ (k : Nat) (a : Addr) (xs : List PyData), F.al[k]? = some a → F.B[k]? = some xs → a ≠ F.sa ∧ ∃ vs, H a = some (.lst vs) ∧ RpAll F.K G vs xs
/-- a value as the frame sees it -/
def VR (F : Fx) (G H : Hp) (e : EV) (v : V) : Prop :=
  match e with
  | .dat d => Rp F.K G v d
  | .scr ns => ∃ a, v = .ref a ∧ SqL F.K G a (ns.map V.int)
  | .st => v = .ref F.sa
  | .bor k => ∃ a, F.al[k]? = some a ∧ v = .ref a
  | .own xs => ∃ a vs, v = .ref a ∧ a ≠ F.sa ∧ H a = some (.lst vs) ∧ RpAll F.K G vs xs
  | .tab _ => False
  | .odi _ _ => False
theorem VR.ext {F : Fx} {G H G' H' : Hp} {e : EV} {v : V} (x : Ext F.sa G H G' H') (h : VR F G H e v) : VR F G' H' e v := by
  cases e with
  | dat d => exact Rp.sub x.data h
  | scr ns =>
    obtain ⟨a, e, h⟩ := h
    exact ⟨a, e, sqL_sub x.data h⟩
  | st => exact h
  | bor k => exact h
  | own xs =>
    obtain ⟨a, vs, e, n, h, r⟩ := h
    exact ⟨a, vs, e, n, x.keep _ _ h n, RpAll.sub x.data r⟩
  | tab _ => exact h
  | odi _ _ => exact h
/-- .. where it stands in a slot: an own list's address is the slot's -/
def SlR (F : Fx) (β : Nat → List Addr) (G H : Hp) (i : Nat) (e : EV) (v : V) : Prop :=
  match e with
  | .own xs => ∃ a vs, v = .ref a ∧ β i = [a] ∧ H a = some (.lst vs) ∧ RpAll F.K G vs xs
  | e => VR F G H e v
structure FR (F : Fx) (G0 H0 : Hp) (ρ : Rho) (S : Sta) (σ : L2.St) (G H : Hp) (β : Nat → List Addr) : Prop where
  good : Good F G H S
  ext : Ext F.sa G0 H0 G H
  new : ∀ i a, a ∈ β i → H0 a = none ∧ G a = none ∧ a ≠ F.sa ∧ ∃ o, H a = some o
  one : ∀ i j a, a ∈ β i → a ∈ β j → i = j
  off : ∀ i a, a ∈ β i → a ∉ F.al
  len : ρ.length = σ.length
  slot : ∀ (i : Nat) (e : EV), ρ[i]? = some (some e) → ∃ v, σ[i]? = some (some v) ∧ SlR F β G H i e v
theorem SlR.vr {F : Fx} {β : Nat → List Addr} {G H : Hp} {i : Nat} {e : EV} {v : V} (n : ∀ a, a ∈ β i → a ≠ F.sa) (h : SlR F β G H i e v) : VR F G H e v := by
  cases e with
  | own xs =>
    obtain ⟨a, vs, e, b, h, r⟩ := h
    exact ⟨a, vs, e, n a (by rw [b]; exact List.mem_singleton.mpr rfl), h, r⟩
  | _ => exact h
theorem FR.get {F : Fx} {G0 H0 : Hp} {ρ : Rho} {S : Sta} {σ : L2.St} {G H : Hp} {β : Nat → List Addr} (f : FR F G0 H0 ρ S σ G H β) {i : Nat} {e : EV} (h : ρ[i]? = some (some e)) : ∃ v, σ[i]? = some (some v) ∧ VR F G H e v := by
  obtain ⟨v, h1, h2⟩ := f.slot i e h
  exact ⟨v, h1, h2.vr fun a ha => (f.new i a ha).2.2.1⟩
theorem SlR.ext {F : Fx} {β : Nat → List Addr} {G H G' H' : Hp} {i : Nat} {e : EV} {v : V} (x : Ext F.sa G H G' H') (n : ∀ a, a ∈ β i → a ≠ F.sa) (h : SlR F β G H i e v) : SlR F β G' H' i e v := by
  cases e with
  | own xs =>
    obtain ⟨a, vs, e, b, h, r⟩ := h
    exact ⟨a, vs, e, b, x.keep _ _ h (n a (by rw [b]; exact List.mem_singleton.mpr rfl)), RpAll.sub x.data r⟩
  | dat d => exact VR.ext (e := .dat d) x h
  | scr ns => exact VR.ext (e := .scr ns) x h
  | st => exact h
  | bor k => exact h
  | tab _ => exact h
  | odi _ _ => exact h
theorem FR.step {F : Fx} {G0 H0 : Hp} {ρ : Rho} {S S' : Sta} {σ : L2.St} {G H G' H' : Hp} {β : Nat → List Addr} (f : FR F G0 H0 ρ S σ G H β) (x : Ext F.sa G H G' H') (g : Good F G' H' S') : FR F G0 H0 ρ S' σ G' H' β where
  good := g
  ext := f.ext.trans x
  new := fun i a ha => by
    obtain ⟨h1, h2, h3, o, h4⟩ := f.new i a ha
    refine ⟨h1, ?_, h3, x.there _ _ h4⟩
    cases q : G' a with
    | none => rfl
    | some u =>
      rcases x.new a u q with z | z
      · rw [h2] at z; cases z
      · rw [h4] at z; cases z
  one := f.one
  off := f.off
  len := f.len
  slot := fun i e h => by
    obtain ⟨v, h1, h2⟩ := f.slot i e h
    exact ⟨v, h1, h2.ext x fun a ha => (f.new i a ha).2.2.1⟩
/-! ### a new object -/
theorem Ext.tmp {sa : Addr} {G H : Hp} {p : Addr} {o : HO} (hp : H p = none) : Ext sa G H G (upd H p o) where
  keep := fun b u h _ => by rw [upd_ne (ne_of_none h hp)]; exact h
  there := fun b u h => ⟨u, by rw [upd_ne (ne_of_none h hp)]; exact h⟩
  data := fun _ _ h => h
  new := fun _ _ h => .inl h
theorem Ext.obj {sa : Addr} {G H : Hp} {p : Addr} {o : HO} (hs : Sub G H) (hp : H p = none) : Ext sa G H (upd G p o) (upd H p o) where
  keep := fun b u h _ => by rw [upd_ne (ne_of_none h hp)]; exact h
  there := fun b u h => ⟨u, by rw [upd_ne (ne_of_none h hp)]; exact h⟩
  data := fun b u h => by rw [upd_ne (ne_of_none (hs b u h) hp)]; exact h
  new := fun b u h => by
    by_cases e : b = p
    · rw [e]; exact .inr hp
    · rw [upd_ne e] at h; exact .inl h
/-- the frame's facts behind an evaluation that leaves the state list as it is -/
theorem Good.ext {F : Fx} {G H G' H' : Hp} {S S' : Sta} (g : Good F G H S) (x : Ext F.sa G H G' H') (hs : Sub G' H') (hn : G' F.sa = none) (st : ∃ vs, H' F.sa = some (.lst vs) ∧ RpAll F.K G' vs S') : Good F G' H' S' :=
  ⟨hs, hn, st, g.len, fun k a xs h1 h2 => by
    obtain ⟨n, vs, h3, h4⟩ := g.bor k a xs h1 h2
    exact ⟨n, vs, x.keep _ _ h3 n, RpAll.sub x.data h4⟩⟩
theorem Good.tmp {F : Fx} {G H : Hp} {S : Sta} (g : Good F G H S) {p : Addr} {o : HO} (hp : H p = none) : Good F G (upd H p o) S := by
  obtain ⟨vs, h1, h2⟩ := g.st
  have ne : F.sa ≠ p := ne_of_none h1 hp
  refine g.ext (Ext.tmp hp) (fun a u h => ?_) g.stn ⟨vs, by rw [upd_ne ne]; exact h1, h2⟩
  rw [upd_ne (ne_of_none (g.sub a u h) hp)]
  exact g.sub a u h
theorem Good.obj {F : Fx} {G H : Hp} {S : Sta} (g : Good F G H S) {p : Addr} {o : HO} (hp : H p = none) : Good F (upd G p o) (upd H p o) S := by
  obtain ⟨vs, h1, h2⟩ := g.st
  have ne : F.sa ≠ p := ne_of_none h1 hp
  have x : Ext F.sa G H (upd G p o) (upd H p o) := Ext.obj g.sub hp
  refine g.ext x (fun a u h => ?_) (by rw [upd_ne ne]; exact g.stn) ⟨vs, by rw [upd_ne ne]; exact h1, RpAll.sub x.data h2⟩
  by_cases e : a = p
  · subst e
    rw [upd_same] at h ⊢
    exact h
  · rw [upd_ne e] at h ⊢
    exact g.sub a u h
end Cw

namespace Cw
open PySem PySem.Spec PyProof.Rows L2
/-- the wish of a value that is reckoned -/
def Fin (F : Fx) (S : Sta) (G H : Hp) (o : Option EV) (Q : VK) : Prop :=
  ∃ e, o = some e ∧ ∀ v G' H', Ext F.sa G H G' H' → Good F G' H' S → VR F G' H' e v → Q v H'
theorem lenOk_le {n : Nat} (h : lenOk n = true) : n ≤ sizeLine := by
  have h1 : n ≤ 1000000 := Nat.le_of_ble_eq_true h
  rw [sizeLine_eq]
  omega
section
variable {F : Fx} {S : Sta} {G H : Hp} {Q : VK}
theorem Fin.dat (g : Good F G H S) {d : PyData} {v : V} (h : Fin F S G H (some (.dat d)) Q) (r : Rp F.K G v d) : Q v H := by
  obtain ⟨e, he, hq⟩ := h
  cases he
  exact hq v G H Ext.refl g r
theorem Fin.int (g : Good F G H S) {i : Int} (h : Fin F S G H (some (.dat (.int i))) Q) : Q (.int i) H := h.dat g (.int i)
theorem Fin.bl (g : Good F G H S) {b : Bool} (h : Fin F S G H (some (.dat (.bool b))) Q) : Q (.bl b) H := h.dat g (.bl b)
theorem Fin.str (g : Good F G H S) {x : Tx} (h : Fin F S G H (some (.dat (.str x))) Q) : Q (.str x) H := h.dat g (.str x)
theorem Fin.tup (g : Good F G H S) {ds : List PyData} {vs : List V} (h : Fin F S G H (some (.dat (.tuple ds))) Q) (r : RpAll F.K G vs ds) (p : Addr) (hp : H p = none) : Q (.ref p) (upd H p (.tup vs)) := by
  obtain ⟨e, he, hq⟩ := h
  cases he
  have x : Ext F.sa G H (upd G p (.tup vs)) (upd H p (.tup vs)) := Ext.obj g.sub hp
  exact hq _ _ _ x (g.obj hp) (.tup (SqT.of upd_same) (RpAll.sub x.data r))
theorem Fin.lst (g : Good F G H S) {ds : List PyData} {vs : List V} (h : Fin F S G H (some (.dat (.list ds))) Q) (r : RpAll F.K G vs ds) (p : Addr) (hp : H p = none) : Q (.ref p) (upd H p (.lst vs)) := by
  obtain ⟨e, he, hq⟩ := h
  cases he
  have x : Ext F.sa G H (upd G p (.lst vs)) (upd H p (.lst vs)) := Ext.obj g.sub hp
  exact hq _ _ _ x (g.obj hp) (.lst upd_same (RpAll.sub x.data r))
/-- a list as it is read -/
theorem lst_at (g : Good F G H S) {e : EV} {v : V} {xs : List PyData} (h : lstOf F.B e = some xs) (r : VR F G H e v) : ∃ a vs, v = .ref a ∧ H a = some (.lst vs) ∧ RpAll F.K G vs xs := by
  cases e with
  | dat d =>
    cases d with
    | list ys =>
      have e : ys = xs := Option.some.inj h
      subst e
      obtain ⟨a, vs, e, h, r⟩ := Rp.lst_inv r
      exact ⟨a, vs, e, g.sub _ _ h, r⟩
    | _ => cases h
  | own ys =>
    have e : ys = xs := Option.some.inj h
    subst e
    obtain ⟨a, vs, e, _, h, r⟩ := r
    exact ⟨a, vs, e, h, r⟩
  | bor k =>
    obtain ⟨a, e1, e2⟩ := r
    obtain ⟨_, vs, h1, h2⟩ := g.bor k a xs e1 h
    exact ⟨a, vs, e2, h1, h2⟩
  | _ => cases h
theorem seq_at (g : Good F G H S) {e : EV} {v : V} {xs : List PyData} (h : seqOf F.B e = some xs) (r : VR F G H e v) : ∃ a vs, v = .ref a ∧ (H a = some (.lst vs) ∨ SqT F.K H a vs) ∧ RpAll F.K G vs xs := by
  have l : lstOf F.B e = some xs → ∃ a vs, v = .ref a ∧ (H a = some (.lst vs) ∨ SqT F.K H a vs) ∧ RpAll F.K G vs xs := fun h => by
    obtain ⟨a, vs, e, h, r⟩ := lst_at g h r
    exact ⟨a, vs, e, .inl h, r⟩
  cases e with
  | dat d =>
    cases d with
    | tuple ys =>
      have e : ys = xs := Option.some.inj h
      subst e
      obtain ⟨a, vs, e, h, r⟩ := Rp.tup_inv r
      exact ⟨a, vs, e, .inr (sqT_sub g.sub h), r⟩
    | _ => exact l h
  | _ => exact l h
/-- data as the layer has it -/
theorem dat_dp (g : Good F G H S) {e : EV} {v : V} {d : PyData} (h : datOf F.B e = some d) (c : SeqAt.shaped d = true) (r : VR F G H e v) : Dp F.K H v d := by
  have cl := SeqAt.canLay_of_shaped c
  have l : (lstOf F.B e).map PyData.list = some d → Dp F.K H v d := fun h => by
    obtain ⟨xs, h1, h2⟩ := Option.map_eq_some_iff.mp h
    subst h2
    obtain ⟨a, vs, e, h, r'⟩ := lst_at g h1 r
    subst e
    exact .lst (SqL.of h) (RpAll.dp (RpAll.sub g.sub r') (by simpa [PyData.canLay0] using cl))
  cases e with
  | dat d' =>
    have e : d' = d := Option.some.inj h
    subst e
    exact Rp.dp (Rp.sub g.sub r) cl
  | _ => exact l h
end
/-- by values -/
def rV2 (F : Fx) (f : Sta → EV → EV → Option EV) : R2 := fun x y H Q => ∃ G S e1 e2, Good F G H S ∧ VR F G H e1 x ∧ VR F G H e2 y ∧ Fin F S G H (f S e1 e2) Q
section
variable {X : Cx} {F : Fx}
theorem op_fdivA : OpR X (binaryOp .FloorDiv) (rI (fun _ j => j ≠ 0 ∧ j.natAbs.log2 < 9000) fun i j => .int (i.fdiv j)) :=
  opI fun _ _ _ _ _ _ _ hc q => floordiv_int hc.1 q (.inl (PyProof.noPylong_of_log2 hc.2))
theorem fit_lt {i : Int} (h : fit i = true) : i.natAbs.log2 < 8000 := by
  have h1 : Nat.blt i.natAbs.log2 8000 = true := h
  exact Nat.le_of_ble_eq_true h1
def opn : Op2 → Operator
  | .add => .Add
  | .sub => .Sub
  | .mul => .Mult
  | .fdiv => .FloorDiv
  | .mod => .Mod
  | .pow => .Pow
theorem op_bin (hK : X.K = F.K) (o : Op2) : OpR X (binaryOp (opn o)) (rV2 F fun _ => binE F.B o) := by
  intro pins s σ H x y v u Q I rx ry h
  obtain ⟨G, S, e1, e2, g, v1, v2, h⟩ := h
  change Fin F S G H (binE F.B o e1 e2) Q at h
  generalize hb : binE F.B o e1 e2 = r at h
  cases r with
  | none =>
    obtain ⟨e, he, _⟩ := h
    cases he
  | some e =>
    unfold binE at hb
    split at hb
    · cases hb
      cases Rp.int_inv v1
      cases Rp.int_inv v2
      exact op_add pins s σ H _ _ v u Q I rx ry ⟨_, _, rfl, rfl, h.int g⟩
    · split at hb
      · rename_i hl
        cases hb
        cases Rp.str_inv v1
        cases Rp.str_inv v2
        exact op_add_str pins s σ H _ _ v u Q I rx ry ⟨_, _, rfl, rfl, lenOk_le hl, h.str g⟩
      · cases hb
    · split at hb
      · rename_i hl
        cases hb
        obtain ⟨a, vs, e1, h1, r1⟩ := Rp.tup_inv v1
        obtain ⟨b, ws, e2, h2, r2⟩ := Rp.tup_inv v2
        subst e1 e2
        refine op_catA pins s σ H _ _ v u Q I rx ry ⟨a, b, vs, ws, rfl, rfl, by rw [hK]; exact sqT_sub g.sub h1, by rw [hK]; exact sqT_sub g.sub h2, by rw [r1.len, r2.len]; exact lenOk_le hl, fun z => ?_, fun _ z => ?_, fun _ _ p hp => ?_⟩
        · subst z
          cases r1
          exact h.dat g v2
        · subst z
          cases r2
          rw [List.append_nil] at h
          exact h.dat g v1
        · exact h.tup g (r1.app r2) p hp
      · cases hb
    · obtain ⟨i, hi, hb⟩ := Option.bind_eq_some_iff.mp hb
      obtain ⟨j, hj, hb⟩ := Option.bind_eq_some_iff.mp hb
      split at hb
      · rename_i hl
        cases hb
        obtain ⟨a, vs, e1, h1, r1⟩ := lst_at g hi v1
        obtain ⟨b, ws, e2, h2, r2⟩ := lst_at g hj v2
        subst e1 e2
        exact op_cat pins s σ H _ _ v u Q I rx ry ⟨a, b, vs, ws, rfl, rfl, h1, h2, by rw [r1.len, r2.len]; exact lenOk_le hl, h.lst g (r1.app r2)⟩
      · cases hb
    · cases hb
      cases Rp.int_inv v1
      cases Rp.int_inv v2
      exact op_sub pins s σ H _ _ v u Q I rx ry ⟨_, _, rfl, rfl, h.int g⟩
    · split at hb
      · rename_i hl
        cases hb
        cases Rp.int_inv v1
        cases Rp.int_inv v2
        rw [Bool.and_eq_true] at hl
        have l1 := fit_lt hl.1
        have l2 := fit_lt hl.2
        exact op_mulW pins s σ H _ _ v u Q I rx ry ⟨_, _, rfl, rfl, by unfold CMulW; omega, h.int g⟩
      · cases hb
    · split at hb
      · rename_i hl
        cases hb
        cases Rp.int_inv v1
        cases Rp.int_inv v2
        rw [Bool.and_eq_true] at hl
        have l2 := fit_lt hl.2
        exact op_fdivA pins s σ H _ _ v u Q I rx ry ⟨_, _, rfl, rfl, ⟨by simpa using hl.1, by omega⟩, h.int g⟩
      · cases hb
    · split at hb
      · rename_i hl
        cases hb
        cases Rp.int_inv v1
        cases Rp.int_inv v2
        exact op_modN pins s σ H _ _ v u Q I rx ry ⟨_, _, rfl, rfl, by simpa using hl, h.int g⟩
      · cases hb
    · split at hb
      · rename_i hl
        cases hb
        cases Rp.int_inv v1
        cases Rp.int_inv v2
        simp only [Bool.and_eq_true, decide_eq_true_eq] at hl
        exact op_pow pins s σ H _ _ v u Q I rx ry ⟨_, _, rfl, rfl, ⟨hl.1.1, by omega, by omega⟩, h.int g⟩
      · cases hb
    · cases hb

/-- a truth value by values -/
def rVB (F : Fx) (f : EV → EV → Option Bool) : R2 := fun x y H Q => ∃ G S e1 e2, Good F G H S ∧ VR F G H e1 x ∧ VR F G H e2 y ∧ ∃ b, f e1 e2 = some b ∧ Q (.bl b) H
def cop : Cmp → CmpOp
  | .eq => .Eq
  | .ne => .NotEq
  | .lt => .Lt
  | .le => .LtE
  | .gt => .Gt
  | .ge => .GtE
  | .inn => .In
  | .nin => .NotIn
  | .isx => .Is
  | .isnt => .IsNot
theorem shaped_items {ds : List PyData} (h : SeqAt.shaped (.list ds) = true) : PyData.canLayAll0 ds = true := by
  simpa [PyData.canLay0] using SeqAt.canLay_of_shaped h
theorem in_room {d : PyData} {ds : List PyData} (h : SeqAt.shaped d = true) (hu : X.A.units + 66 < cLine) : X.A.units + 1 + min (PyData.depthAll ds) d.depth < cLine := by
  have h1 := SeqAt.depth_of_shaped h
  have h2 : min (PyData.depthAll ds) d.depth ≤ d.depth := Nat.min_le_right _ _
  omega
theorem eq_vals (hu : X.A.units + 66 < cLine) (hK : X.K = F.K) : OpR X (compareOp .Eq) (rVB F (eqE F.B)) := by
  intro pins s σ H x y v u Q I rx ry h
  obtain ⟨G, S, e1, e2, g, v1, v2, b, hb, q⟩ := h
  unfold eqE at hb
  obtain ⟨d, hd, hb⟩ := Option.bind_eq_some_iff.mp hb
  obtain ⟨e, he, hb⟩ := Option.bind_eq_some_iff.mp hb
  split at hb
  · rename_i hs
    cases hb
    rw [Bool.and_eq_true] at hs
    exact op_eqD (by omega) pins s σ H x y v u Q I rx ry ⟨d, e, by rw [hK]; exact dat_dp g hd hs.1 v1, by rw [hK]; exact dat_dp g he hs.2 v2, hs.1, hs.2, q⟩
  · cases hb
theorem ne_vals (hu : X.A.units + 66 < cLine) (hK : X.K = F.K) : OpR X (compareOp .NotEq) (rVB F fun x y => (eqE F.B x y).map (!·)) := by
  intro pins s σ H x y v u Q I rx ry h
  obtain ⟨G, S, e1, e2, g, v1, v2, b, hb, q⟩ := h
  obtain ⟨b', hb1, e⟩ := Option.map_eq_some_iff.mp hb
  subst e
  unfold eqE at hb1
  obtain ⟨d, hd, hb2⟩ := Option.bind_eq_some_iff.mp hb1
  obtain ⟨e, he, hb3⟩ := Option.bind_eq_some_iff.mp hb2
  split at hb3
  · rename_i hs
    cases hb3
    rw [Bool.and_eq_true] at hs
    exact op_neD (by omega) pins s σ H x y v u Q I rx ry ⟨d, e, by rw [hK]; exact dat_dp g hd hs.1 v1, by rw [hK]; exact dat_dp g he hs.2 v2, hs.1, hs.2, q⟩
  · cases hb3
/-- a sequence of data as the layer has it -/
theorem seq_dp {G H : Hp} {S : Sta} (g : Good F G H S) {e : EV} {v : V} {ds : List PyData} (h : seqOf F.B e = some ds) (c : SeqAt.shaped (.list ds) = true) (r : VR F G H e v) : Dp F.K H v (.list ds) ∨ Dp F.K H v (.tuple ds) := by
  obtain ⟨a, vs, e1, h1, r1⟩ := seq_at g h r
  subst e1
  have r' := RpAll.dp (RpAll.sub g.sub r1) (shaped_items c)
  rcases h1 with h1 | h1
  · exact .inl (.lst (SqL.of h1) r')
  · exact .inr (.tup h1 r')
theorem in_seq (hu : X.A.units + 66 < cLine) (hK : X.K = F.K) {pins : List (Addr × Obj)} {s : Shared} {σ : L2.St} {H G : Hp} {S : Sta} {x y : V} {v u : Value} {Q : Value → Shared → Prop} {E : Value → Shared → Prop} (neg : Bool) (I : Inv X pins σ H s) (rx : RelV x v) (ry : RelV y u) (g : Good F G H S)
    {e1 e2 : EV} {d : PyData} {ds : List PyData} (hd : datOf F.B e1 = some d) (hds : seqOf F.B e2 = some ds) (s1 : SeqAt.shaped d = true) (s2 : SeqAt.shaped (.list ds) = true) (v1 : VR F G H e1 x) (v2 : VR F G H e2 y)
    (q : Q (.bool (if neg then !ds.any (fun z => PyData.eqv z d) else ds.any fun z => PyData.eqv z d)) s) : wpAny (model X.prog X.w) X.A (compareOp (if neg then .NotIn else .In) v u) Q E s := by
  obtain ⟨as, r1⟩ := Dp.reads I d x v (by rw [hK]; exact dat_dp g hd s1 v1) rx
  have hx := shaped_items s2
  have hc := SeqAt.canLay_of_shaped s1
  have hr := in_room (X := X) (ds := ds) s1 hu
  rcases seq_dp g hds s2 v2 with h | h
  · obtain ⟨bs, r2⟩ := Dp.reads I (.list ds) y u (by rw [hK]; exact h) ry
    cases neg with
    | true => exact SeqAt.notIn_list_reads r2 r1 hx hc hr q
    | false => exact SeqAt.in_list_reads r2 r1 hx hc hr q
  · obtain ⟨bs, r2⟩ := Dp.reads I (.tuple ds) y u (by rw [hK]; exact h) ry
    cases neg with
    | true => exact SeqAt.notIn_tuple_reads r2 r1 hx hc hr q
    | false => exact SeqAt.in_tuple_reads r2 r1 hx hc hr q
theorem in_vals (hu : X.A.units + 66 < cLine) (hK : X.K = F.K) : OpR X (compareOp .In) (rVB F (inE F.B)) := by
  intro pins s σ H x y v u Q I rx ry h
  obtain ⟨G, S, e1, e2, g, v1, v2, b, hb, q⟩ := h
  unfold inE at hb
  split at hb
  · cases hb
    cases Rp.str_inv v1
    cases Rp.str_inv v2
    exact op_in_str pins s σ H _ _ v u Q I rx ry ⟨_, _, rfl, rfl, q⟩
  · obtain ⟨d, hd, hb⟩ := Option.bind_eq_some_iff.mp hb
    obtain ⟨ds, he, hb⟩ := Option.bind_eq_some_iff.mp hb
    split at hb
    · rename_i hs
      cases hb
      rw [Bool.and_eq_true] at hs
      exact in_seq hu hK false I rx ry g hd he hs.1 hs.2 v1 v2 ⟨.bl _, H, I, rfl, q⟩
    · cases hb
theorem nin_vals (hu : X.A.units + 66 < cLine) (hK : X.K = F.K) : OpR X (compareOp .NotIn) (rVB F fun x y => (inE F.B x y).map (!·)) := by
  intro pins s σ H x y v u Q I rx ry h
  obtain ⟨G, S, e1, e2, g, v1, v2, b, hb, q⟩ := h
  obtain ⟨b', hb1, e⟩ := Option.map_eq_some_iff.mp hb
  subst e
  unfold inE at hb1
  split at hb1
  · cases hb1
    cases Rp.str_inv v1
    cases Rp.str_inv v2
    exact L2.op_notin_str pins s σ H _ _ v u Q I rx ry ⟨_, _, rfl, rfl, q⟩
  · obtain ⟨d, hd, hb2⟩ := Option.bind_eq_some_iff.mp hb1
    obtain ⟨ds, he, hb3⟩ := Option.bind_eq_some_iff.mp hb2
    split at hb3
    · rename_i hs
      cases hb3
      rw [Bool.and_eq_true] at hs
      exact in_seq hu hK true I rx ry g hd he hs.1 hs.2 v1 v2 ⟨.bl _, H, I, rfl, q⟩
    · cases hb3
theorem int_of {G H : Hp} {e : EV} {v : V} {i : Int} (h : intOf e = some i) (r : VR F G H e v) : v = .int i := by
  cases e with
  | dat d =>
    cases d with
    | int j =>
      have e : j = i := Option.some.inj h
      subst e
      exact Rp.int_inv r
    | _ => cases h
  | _ => cases h
theorem ord_vals {op : CmpOp} {f : Int → Int → Bool} (rule : OpR X (compareOp op) (rI0 fun i j => .bl (f i j))) : OpR X (compareOp op) (rVB F fun x y => ordE x y f) := by
  intro pins s σ H x y v u Q I rx ry h
  obtain ⟨G, S, e1, e2, g, v1, v2, b, hb, q⟩ := h
  obtain ⟨i, hi, hb⟩ := Option.bind_eq_some_iff.mp hb
  obtain ⟨j, hj, hb⟩ := Option.map_eq_some_iff.mp hb
  subst hb
  have e1 := int_of hi v1
  have e2 := int_of hj v2
  subst e1 e2
  exact rule pins s σ H _ _ v u Q I rx ry ⟨i, j, rfl, rfl, q⟩
theorem is_inv {G H : Hp} {e1 e2 : EV} {x y : V} {b : Bool} (h : isE e1 e2 = some b) (v1 : VR F G H e1 x) (v2 : VR F G H e2 y) : (y = .non ∧ b = decide (x = .non)) ∨ (∃ c d : Bool, x = .bl c ∧ y = .bl d ∧ b = decide (c = d)) := by
  unfold isE at h
  split at h
  · cases h
    cases Rp.non_inv v1
    cases Rp.non_inv v2
    exact .inl ⟨rfl, (decide_eq_true rfl).symm⟩
  · rename_i ne
    cases h
    cases Rp.non_inv v2
    refine .inl ⟨rfl, (decide_eq_false fun z => ?_).symm⟩
    subst z
    cases e1 with
    | dat d =>
      cases d with
      | none => exact ne rfl
      | bool _ => cases Rp.bl_inv v1
      | int _ => cases Rp.int_inv v1
      | str _ => cases Rp.str_inv v1
      | list _ => obtain ⟨_, _, e, _⟩ := Rp.lst_inv v1; cases e
      | tuple _ => obtain ⟨_, _, e, _⟩ := Rp.tup_inv v1; cases e
      | dict _ => cases v1
    | scr _ => obtain ⟨_, e, _⟩ := v1; cases e
    | st => cases v1
    | bor _ => obtain ⟨_, _, e⟩ := v1; cases e
    | own _ => obtain ⟨_, _, e, _⟩ := v1; cases e
    | tab _ => exact v1
    | odi _ _ => exact v1
  · cases h
    cases Rp.bl_inv v1
    cases Rp.bl_inv v2
    exact .inr ⟨_, _, rfl, rfl, by rw [Bool.beq_eq_decide_eq]⟩
  · cases h
theorem is_vals : OpR X (compareOp .Is) (rVB F isE) := by
  intro pins s σ H x y v u Q I rx ry h
  obtain ⟨G, S, e1, e2, g, v1, v2, b, hb, q⟩ := h
  rcases is_inv hb v1 v2 with ⟨e, e'⟩ | ⟨c, d, e, e', e3⟩
  · subst e'
    exact op_isN pins s σ H x y v u Q I rx ry ⟨e, q⟩
  · subst e3
    exact op_isBl pins s σ H x y v u Q I rx ry ⟨c, d, e, e', q⟩
theorem isnt_vals : OpR X (compareOp .IsNot) (rVB F fun x y => (isE x y).map (!·)) := by
  intro pins s σ H x y v u Q I rx ry h
  obtain ⟨G, S, e1, e2, g, v1, v2, b, hb, q⟩ := h
  obtain ⟨b', hb1, e⟩ := Option.map_eq_some_iff.mp hb
  subst e
  rcases is_inv hb1 v1 v2 with ⟨f1, f2⟩ | ⟨c, d, f1, f2, f3⟩
  · subst f2
    exact op_notN pins s σ H x y v u Q I rx ry ⟨f1, q⟩
  · subst f3
    exact op_notBl pins s σ H x y v u Q I rx ry ⟨c, d, f1, f2, q⟩
theorem cmp_vals (hu : X.A.units + 66 < cLine) (hK : X.K = F.K) (o : Cmp) : OpR X (compareOp (cop o)) (rVB F (cmpE F.B o)) := by
  cases o with
  | eq => exact eq_vals hu hK
  | ne => exact ne_vals hu hK
  | lt => exact ord_vals op_lt
  | le => exact ord_vals op_le
  | gt => exact ord_vals op_gt
  | ge => exact ord_vals op_ge
  | inn => exact in_vals hu hK
  | nin => exact nin_vals hu hK
  | isx => exact is_vals
  | isnt => exact isnt_vals
/-! ### truth -/
theorem tru_vals (hK : X.K = F.K) {G H : Hp} {S : Sta} (g : Good F G H S) {e : EV} {v : V} {b : Bool} (h : truth F.B e = some b) (r : VR F G H e v) : TruV X.K v H b := by
  have l : (seqOf F.B e).map (fun xs => !xs.isEmpty) = some b → TruV X.K v H b := fun h => by
    obtain ⟨xs, h1, h2⟩ := Option.map_eq_some_iff.mp h
    obtain ⟨a, vs, ev, h3, rr⟩ := seq_at g h1 r
    subst ev h2
    have em : (!xs.isEmpty) = !vs.isEmpty := by cases rr <;> rfl
    rcases h3 with h3 | h3
    · exact .inl ⟨vs, SqL.of h3, em⟩
    · exact .inr (.inl ⟨vs, by rw [hK]; exact h3, em⟩)
  unfold truth at h
  split at h
  · cases h
    cases Rp.non_inv r
    rfl
  · cases h
    cases Rp.bl_inv r
    rfl
  · cases h
    cases Rp.int_inv r
    rfl
  · split at h
    · rename_i hl
      cases h
      cases Rp.str_inv r
      refine ⟨?_, rfl⟩
      have h1 : _ ≤ 1000000 := hl
      rw [sizeLine_eq]
      omega
    · cases h
  · cases h
  · exact l h
/-! ### subscripts -/
theorem atI_rp {K : PySem.W.Frag} {G : Hp} {vs : List V} {ds : List PyData} {i : Int} {d : PyData} (r : RpAll K G vs ds) (h : L2.atI ds i = some d) : ∃ v, L2.atI vs i = some v ∧ Rp K G v d := by
  unfold L2.atI at h ⊢
  rw [r.len]
  obtain ⟨j, hj, h⟩ := Option.bind_eq_some_iff.mp h
  obtain ⟨v, h1, h2⟩ := r.get h
  exact ⟨v, by rw [hj]; exact h1, h2⟩
theorem ix_vals (hK : X.K = F.K) : IxR X (rV2 F (subE F.B)) := by
  intro value slice pins s σ H x y v u Q I rx ry h hs
  obtain ⟨G, S, e1, e2, g, v1, v2, h⟩ := h
  change Fin F S G H (subE F.B S e1 e2) Q at h
  have byL : ∀ {a : Addr} {vs : List V} {ds : List PyData} {i : Int} {d : PyData}, x = .ref a → y = .int i → H a = some (.lst vs) → RpAll F.K G vs ds → L2.atI ds i = some d → subE F.B S e1 e2 = some (.dat d) →
      wpAny (model X.prog X.w) X.A (subscriptTail value slice v u) (EP X pins σ Q) X.xe s := fun {a vs ds i d} ex ey h1 rr h2 ee => by
    obtain ⟨w, h3, h4⟩ := atI_rp rr h2
    rw [ee] at h
    exact ix_list value slice pins s σ H x y v u Q I rx ry ⟨a, vs, i, w, ex, ey, SqL.of h1, h3, h.dat g h4⟩ hs
  have byT : ∀ {a : Addr} {vs : List V} {ds : List PyData} {i : Int} {d : PyData}, x = .ref a → y = .int i → SqT F.K H a vs → RpAll F.K G vs ds → L2.atI ds i = some d → subE F.B S e1 e2 = some (.dat d) →
      wpAny (model X.prog X.w) X.A (subscriptTail value slice v u) (EP X pins σ Q) X.xe s := fun {a vs ds i d} ex ey h1 rr h2 ee => by
    obtain ⟨w, h3, h4⟩ := atI_rp rr h2
    rw [ee] at h
    exact ix_tup value slice pins s σ H x y v u Q I rx ry ⟨a, vs, i, w, ex, ey, by rw [hK]; exact h1, h3, h.dat g h4⟩ hs
  generalize hb : subE F.B S e1 e2 = r at h byL byT
  cases r with
  | none =>
    obtain ⟨e, he, _⟩ := h
    cases he
  | some e =>
    unfold subE at hb
    split at hb
    · obtain ⟨d, h1, h2⟩ := Option.map_eq_some_iff.mp hb
      subst h2
      obtain ⟨vs, h3, h4⟩ := g.st
      exact byL v1 (Rp.int_inv v2) h3 h4 h1 rfl
    · exact v1.elim
    · split at hb
      · rename_i hl
        obtain ⟨c, h1, h2⟩ := Option.map_eq_some_iff.mp hb
        subst h2
        cases Rp.str_inv v1
        cases Rp.int_inv v2
        exact ix_str value slice pins s σ H _ _ v u Q I rx ry ⟨_, _, c, rfl, rfl, lenOk_le hl, h1, h.str g⟩ hs
      · cases hb
    · obtain ⟨xs, h1, h2⟩ := Option.bind_eq_some_iff.mp hb
      obtain ⟨d, h3, h4⟩ := Option.map_eq_some_iff.mp h2
      subst h4
      obtain ⟨a, vs, e1, h5, h6⟩ := seq_at g h1 v1
      rcases h5 with h5 | h5
      · exact byL e1 (Rp.int_inv v2) h5 h6 h3 rfl
      · exact byT e1 (Rp.int_inv v2) h5 h6 h3 rfl
    · cases hb
/-! ### slices -/
def rSl (F : Fx) : V → Option Int → Option Int → Hp → VK → Prop := fun x lo hi H Q => ∃ G S e, Good F G H S ∧ VR F G H e x ∧ Fin F S G H (slcE F.B e lo hi) Q
theorem cutL_rp {K : PySem.W.Frag} {G : Hp} {vs : List V} {ds : List PyData} (r : RpAll K G vs ds) (lo hi : Option Int) : RpAll K G (L2.cutV vs lo hi) (cutL ds lo hi) := by
  unfold L2.cutV cutL
  rw [r.len]
  exact RpAll.take _ (RpAll.drop _ r)
theorem cutL_whole {α : Type} {xs : List α} {lo hi : Option Int} (h : HT.sIx xs.length 0 lo = 0 ∧ HT.sIx xs.length xs.length hi = xs.length) : cutL xs lo hi = xs := by
  unfold cutL
  rw [h.1, h.2]
  simp
theorem sl_vals (hK : X.K = F.K) : L2.SlR X (rSl F) := by
  intro pins s σ H x v vl vu lo hi sl Q I rx hs pl pu h
  obtain ⟨G, S, e1, g, v1, h⟩ := h
  generalize hb : slcE F.B e1 lo hi = r at h
  cases r with
  | none =>
    obtain ⟨e, he, _⟩ := h
    cases he
  | some e =>
    unfold slcE at hb
    split at hb
    · split at hb
      · rename_i hl
        cases hb
        cases Rp.str_inv v1
        exact sl_str pins s σ H _ v vl vu lo hi sl Q I rx hs pl pu ⟨_, rfl, lenOk_le hl, h.str g⟩
      · cases hb
    · cases hb
      obtain ⟨a, vs, e2, h1, r1⟩ := Rp.tup_inv v1
      refine sl_tupA pins s σ H x v vl vu lo hi sl Q I rx hs pl pu ⟨a, vs, e2, by rw [hK]; exact sqT_sub g.sub h1, fun w => ?_, fun _ p hp => h.tup g (cutL_rp r1 lo hi) p hp⟩
      rw [r1.len] at w
      rw [cutL_whole w] at h
      rw [← e2]
      exact h.dat g v1
    · obtain ⟨xs, h1, h2⟩ := Option.map_eq_some_iff.mp hb
      subst h2
      obtain ⟨a, vs, e2, h3, r1⟩ := lst_at g h1 v1
      exact sl_list pins s σ H x v vl vu lo hi sl Q I rx hs pl pu ⟨a, vs, e2, SqL.of h3, h.lst g (cutL_rp r1 lo hi)⟩
end
end Cw

namespace PySem
open Sem (wp)
section
variable {prog : Program} {w : World} {A : Around} {E : Value → Shared → Prop} {s : Shared}
theorem cw_tuple_new_str {Q₁ : Value → Shared → Prop} (hh : A.handled = none) (x : Str) (t : Tok)
    (h : ∀ (s' : Shared) (acc : Array Value), (∀ b o, s.heap.get? b = some o → s'.heap.get? b = some o) → s'.gens = s.gens → s'.drawn = s.drawn → s'.os = s.os → ItemsOf (SignAt x) acc x.cps.size →
      Q₁ (.ref s'.heap.objs.size) { s' with heap := s'.heap.push { cls := .type "tuple", data := .seq acc } }) (hn : x.cps.size ≤ sizeLine) :
    codeAny (model prog w) A (.call (.builtin "tuple.__new__") ⟨[.type "tuple", .str x t], []⟩) (wants Q₁ E) s := by
  refine codeAny_of_tree ?_
  show wpAny _ A.in1 (do
    checkBuiltinCall "tuple.__new__" ⟨[.type "tuple", .str x t], []⟩
    again (.builtin "tuple.__new__" ⟨[.type "tuple", .str x t], []⟩)) _ _ s
  refine wpAny_bind (wpAny_of_eq (F.newCall_tuple_1 _) (wpAny_pure ⟨plainId_quiet F.plain_tuple_new _, codeAny_builtin F.entry_tuple_new ?_⟩))
  rw [Around.under_plainId F.plain_tuple_new _]
  have hsub := sub_tuple_self
  have hinit := init_tuple_lookup
  have hmh := madeHere_tuple
  have hTI : s.TypeIs (.str x t) "str" := rfl
  wp_walk using wpAny_typeOf hTI, wpAny_collect_str (A := A.in1) (hn := hn) hh x t
  intro s' acc hk hg hd ho hacc
  show wpAny _ _ (Builtin.Tuple.tupleExact acc.toList.toArray >>= fun v => ret v) _ _ _
  unfold Builtin.Tuple.tupleExact
  refine wpAny_bind (wpAny_newObj_type ?_ (by
    show acc.toList.toArray.size ≤ sizeLine
    simp only [Array.toArray_toList]
    rw [hacc.1]
    exact hn))
  refine wpAny_pure ?_
  have e : acc.toList.toArray = acc := by simp
  rw [e]
  exact h s' acc hk hg hd ho hacc
theorem cw_tuple_str {Q : Value → Shared → Prop} (hh : A.handled = none) (x : Str) (t : Tok)
    (hQ : ∀ (s' : Shared) (acc : Array Value), (∀ b o, s.heap.get? b = some o → s'.heap.get? b = some o) → s'.gens = s.gens → s'.drawn = s.drawn → s'.os = s.os → ItemsOf (SignAt x) acc x.cps.size →
      Q (.ref s'.heap.objs.size) { s' with heap := s'.heap.push { cls := .type "tuple", data := .seq acc } }) (hn : x.cps.size ≤ sizeLine) :
    wpAny (model prog w) A (call (.type "tuple") [.str x t]) Q E s := by
  refine callType_codes (Q₁ := fun obj s₁ => s₁.TypeIs obj "tuple" ∧ Q obj s₁) F.called_tuple (F.typeCall_tuple_1 _) F.entry_object_init
    (cw_tuple_new_str (A := A.in1) (s := s) (prog := prog) (w := w) (E := E) (Q₁ := fun obj s₁ => s₁.TypeIs obj "tuple" ∧ Q obj s₁) hh x t (fun s' acc hk hg hd ho hacc => ⟨⟨_, Heap.get?_push_size _ rfl, rfl⟩, hQ s' acc hk hg hd ho hacc⟩) hn) fun obj s₁ h₁ => ?_
  exact ⟨h₁.1, F.args_object_init_2 obj _, object_init_meets F.called_tuple.init.lookup F.called_tuple.made (by decide) prog w A.in1 _ s₁ ⟨h₁.1, rfl, h₁.2⟩⟩
end
end PySem

namespace Cw
open PySem PySem.Spec PyProof.Rows L2
section
variable {X : Cx} {F : Fx}
theorem vals_signs {x : Tx} {acc : Array Value} (h : ItemsOf (SignAt x) acc x.cps.size) : Vals (x.cps.toList.map fun c => V.str ⟨#[c]⟩) acc.toList := by
  obtain ⟨h1, h2⟩ := h
  have key : ∀ (cs : List Nat) (us : List Value), us.length = cs.length → (∀ (j : Nat) (v : Value), us[j]? = some v → ∃ c u, cs[j]? = some c ∧ v = .str ⟨#[c]⟩ u) → Vals (cs.map fun c => V.str ⟨#[c]⟩) us := by
    intro cs
    induction cs with
    | nil =>
      intro us hl _
      cases us with
      | nil => exact .nil
      | cons _ _ => cases hl
    | cons c cs ih =>
      intro us hl hu
      cases us with
      | nil => cases hl
      | cons u us =>
        obtain ⟨c', t, e1, e2⟩ := hu 0 u rfl
        cases e1
        refine .cons ⟨t, e2⟩ (ih us (by simpa using hl) fun j v hj => ?_)
        obtain ⟨c', t, e1, e2⟩ := hu (j + 1) v (by simpa using hj)
        exact ⟨c', t, by simpa using e1, e2⟩
  refine key x.cps.toList acc.toList (by simp [h1]) fun j v hj => ?_
  obtain ⟨c, u, e1, e2⟩ := h2 j v (by simpa using hj)
  exact ⟨c, u, by simpa using e1, e2⟩
theorem call_tuple_text (hc : X.calm = true) : CallR X (.type "tuple") (fun xs H Q => ∃ z : Tx, xs = [.str z] ∧ z.length ≤ sizeLine ∧ ∀ p, H p = none → Q (.ref p) (upd H p (.tup (z.cps.toList.map fun c => V.str ⟨#[c]⟩)))) := by
  intro pins s σ H xs us Q I r h
  obtain ⟨z, rfl, hz, q⟩ := h
  obtain ⟨u, rfl, t, rfl⟩ := vals1 r
  refine cw_tuple_str (I.ok.hd hc) z t (fun s' acc hk hg hd ho hacc => ?_) hz
  have I1 : Inv X pins σ H s' := by
    have I2 := I.step (h' := s'.heap) (g' := s'.gens) (t' := s'.toks) (d' := s'.drawn) (ch := []) (H' := H) (fun _ w => nomatch w) (fun b o _ _ _ e _ => hk b o e) (fun b o _ _ _ e _ => ⟨o.slots, hk b o e⟩) (fun _ _ _ _ n => n)
      (fun b o _ e => ⟨o, hk b o e⟩) (fun _ _ e => e) (fun _ _ _ e => e) (fun _ ps e => ⟨#[], by rw [e]; simp⟩) (fun m hm => hm.keeps hk) (I.hok.kept hk) (by rw [hg]; exact I.bare)
    obtain ⟨hp, g, d, tk, os⟩ := s'
    have e : os = s.os := ho
    subst e
    exact I2
  have rv := vals_signs hacc
  have hl := rv.length
  have hf : H s'.heap.objs.size = none := I1.hok.fresh (Nat.le_refl _)
  have hs : (List.map (fun c => V.str ⟨#[c]⟩) z.cps.toList).length ≤ sizeLine := by
    rw [List.length_map]
    exact hz
  refine ⟨.ref _, _, I1.laid (t' := s'.toks) (fun b u e => Heap.get?_push_of_some _ e) (Nat.le_refl _) ?_, rfl, q _ hf⟩
  exact ⟨hs, acc.toList, rv, ⟨_, Heap.get?_push_size _ rfl, rfl, _, rfl⟩⟩
theorem call_str_none : CallR X (.type "str") (fun xs H Q => xs = [.non] ∧ Q (.str (PySem.Str.ofString "None")) H) := by
  intro pins s σ H xs us Q I r h
  obtain ⟨rfl, q⟩ := h
  obtain ⟨u, rfl, rr⟩ := vals1 r
  cases rr
  exact PySem.P.str_of_none ⟨.str _, H, I.tok _, ⟨_, rfl⟩, q⟩
abbrev VRs (F : Fx) (G H : Hp) : List EV → List V → Prop := Paired (VR F G H)
def rB (F : Fx) (f : Sta → List EV → Option EV) : List V → Hp → VK → Prop := fun vs H Q => ∃ G S es, Good F G H S ∧ VRs F G H es vs ∧ Fin F S G H (f S es) Q
theorem VRs.one {G H : Hp} {e : EV} {vs : List V} (h : VRs F G H [e] vs) : ∃ v, vs = [v] ∧ VR F G H e v := by
  cases h with
  | cons a b =>
    cases b
    exact ⟨_, rfl, a⟩
theorem VRs.two {G H : Hp} {e f : EV} {vs : List V} (h : VRs F G H [e, f] vs) : ∃ v w, vs = [v, w] ∧ VR F G H e v ∧ VR F G H f w := by
  cases h with
  | cons a b =>
    cases b with
    | cons c d =>
      cases d
      exact ⟨_, _, rfl, a, c⟩
def bltV : Blt → Value
  | .len => .builtin "len"
  | .abs => .builtin "abs"
  | .int => .type "int"
  | .str => .type "str"
  | .list => .type "list"
  | .tuple => .type "tuple"
  | .max => .builtin "max"
  | .min => .builtin "min"
  | .sum => .builtin "sum"
theorem signs_rp {K : PySem.W.Frag} {G : Hp} (z : Tx) : RpAll K G (z.cps.toList.map fun c => V.str ⟨#[c]⟩) (signs z) := by
  unfold signs
  generalize z.cps.toList = cs
  induction cs with
  | nil => exact .nil
  | cons c cs ih => exact .cons (.str _) ih
theorem ints_rp {K : PySem.W.Frag} {G : Hp} : ∀ {ds : List PyData} {vs : List V} {ns : List Int}, RpAll K G vs ds → intsOf ds = some ns → vs = ns.map V.int
  | [], _, ns, r, h => by
    cases r
    cases h
    rfl
  | d :: ds, _, ns, r, h => by
    cases r with
    | cons r1 r2 =>
      cases d with
      | int i =>
        obtain ⟨ms, h1, h2⟩ := Option.map_eq_some_iff.mp h
        subst h2
        rw [Rp.int_inv r1, ints_rp r2 h1]
        rfl
      | _ => cases h
theorem blt_vals (hc : X.calm = true) (hK : X.K = F.K) (f : Blt) : CallR X (bltV f) (rB F fun S => bltE F.B S f) := by
  intro pins s σ H xs us Q I r h
  obtain ⟨G, S, es, g, v1, h⟩ := h
  change Fin F S G H (bltE F.B S f es) Q at h
  generalize hb : bltE F.B S f es = o at h
  cases o with
  | none =>
    obtain ⟨e, he, _⟩ := h
    cases he
  | some e =>
    unfold bltE at hb
    split at hb
    · split at hb
      · rename_i hl
        cases hb
        obtain ⟨v, rfl, v2⟩ := v1.one
        cases Rp.str_inv v2
        exact call_len_str pins s σ H _ us Q I r ⟨_, rfl, lenOk_le hl, h.int g⟩
      · cases hb
    · obtain ⟨ys, h1, h2⟩ := Option.map_eq_some_iff.mp hb
      subst h2
      obtain ⟨v, rfl, v2⟩ := v1.one
      obtain ⟨a, vs, e1, h3, h4⟩ := seq_at g h1 v2
      subst e1
      refine call_len_seq pins s σ H _ us Q I r ⟨a, vs, rfl, ?_, by rw [h4.len]; exact h.int g⟩
      rcases h3 with h3 | h3
      · exact .inl (SqL.of h3)
      · exact .inr (by rw [hK]; exact h3)
    · cases hb
      obtain ⟨v, rfl, v2⟩ := v1.one
      cases Rp.int_inv v2
      exact call_abs pins s σ H _ us Q I r ⟨_, rfl, h.int g⟩
    · cases hb
      obtain ⟨v, rfl, v2⟩ := v1.one
      cases Rp.int_inv v2
      exact call_int1 pins s σ H _ us Q I r (.inl ⟨_, rfl, h.int g⟩)
    · cases hb
      obtain ⟨v, rfl, v2⟩ := v1.one
      cases Rp.bl_inv v2
      exact call_int1 pins s σ H _ us Q I r (.inr ⟨_, rfl, h.int g⟩)
    · split at hb
      · rename_i hl
        cases hb
        obtain ⟨v, rfl, v2⟩ := v1.one
        cases Rp.int_inv v2
        exact call_str_int pins s σ H _ us Q I r ⟨_, rfl, Nat.le_of_ble_eq_true hl, h.str g⟩
      · cases hb
    · cases hb
      obtain ⟨v, rfl, v2⟩ := v1.one
      cases Rp.non_inv v2
      exact call_str_none pins s σ H _ us Q I r ⟨rfl, h.str g⟩
    · cases hb
      obtain ⟨v, rfl, a, e1, h1⟩ := v1.one
      subst e1
      exact call_list_of pins s σ H _ us Q I r ⟨a, _, rfl, .inl (by rw [hK]; exact sqL_sub g.sub h1), h.lst g (RpAll.ints _)⟩
    · obtain ⟨ys, h1, h2⟩ := Option.map_eq_some_iff.mp hb
      subst h2
      obtain ⟨v, rfl, v2⟩ := v1.one
      obtain ⟨a, vs, e1, h3, h4⟩ := seq_at g h1 v2
      subst e1
      refine call_list_of pins s σ H _ us Q I r ⟨a, vs, rfl, ?_, h.lst g h4⟩
      rcases h3 with h3 | h3
      · exact .inl (SqL.of h3)
      · exact .inr (by rw [hK]; exact h3)
    · split at hb
      · rename_i hl
        cases hb
        obtain ⟨v, rfl, v2⟩ := v1.one
        cases Rp.str_inv v2
        exact call_tuple_text hc pins s σ H _ us Q I r ⟨_, rfl, lenOk_le hl, h.tup g (signs_rp _)⟩
      · cases hb
    · obtain ⟨ys, h1, h2⟩ := Option.map_eq_some_iff.mp hb
      subst h2
      obtain ⟨v, rfl, v2⟩ := v1.one
      rename_i ev _
      by_cases ht : ∃ zs, ev = .dat (.tuple zs)
      · obtain ⟨zs, rfl⟩ := ht
        cases h1
        obtain ⟨a, vs, e1, h3, h4⟩ := Rp.tup_inv v2
        subst e1
        exact call_tuple_of pins s σ H _ us Q I r ⟨a, vs, rfl, .inr ⟨by rw [hK]; exact sqT_sub g.sub h3, h.dat g v2⟩⟩
      · have hl : lstOf F.B ev = some ys := by
          cases ev with
          | dat d =>
            cases d with
            | tuple zs => exact absurd ⟨zs, rfl⟩ ht
            | _ => exact h1
          | _ => exact h1
        obtain ⟨a, vs, e1, h3, h4⟩ := lst_at g hl v2
        subst e1
        exact call_tuple_of pins s σ H _ us Q I r ⟨a, vs, rfl, .inl ⟨SqL.of h3, h.tup g h4⟩⟩
    · cases hb
      obtain ⟨v, w, rfl, v2, v3⟩ := v1.two
      cases Rp.int_inv v2
      cases Rp.int_inv v3
      exact call_max2 hc pins s σ H _ us Q I r ⟨_, _, rfl, h.int g⟩
    · cases hb
      obtain ⟨v, w, rfl, v2, v3⟩ := v1.two
      cases Rp.int_inv v2
      cases Rp.int_inv v3
      exact call_min2 hc pins s σ H _ us Q I r ⟨_, _, rfl, h.int g⟩
    · obtain ⟨ys, h1, h2⟩ := Option.bind_eq_some_iff.mp hb
      obtain ⟨ns, h3, h4⟩ := Option.map_eq_some_iff.mp h2
      subst h4
      obtain ⟨v, rfl, v2⟩ := v1.one
      obtain ⟨a, vs, e1, h5, h6⟩ := lst_at g h1 v2
      subst e1
      have ev := ints_rp h6 h3
      subst ev
      exact cr_sum hc pins s σ H _ us Q I r ⟨a, ns, rfl, SqL.of h5, h.int g⟩
    · cases hb
end
end Cw

namespace Cw
open PySem PySem.Spec PyProof.Rows L2
theorem PE_imp {X : Cx} {e : Expr} {t t' : TE} (h : PE X e t) (i : ∀ σ H Q, t' σ H Q → t σ H Q) : PE X e t' := ⟨fun pins s σ H Q I q => h.run pins s σ H Q I (i _ _ _ q)⟩
theorem PT_imp {X : Cx} {e : Expr} {t t' : TT} (h : PT X e t) (i : ∀ σ H Q, t' σ H Q → t σ H Q) : PT X e t' := ⟨fun pins s σ H Q I q => h.run pins s σ H Q I (i _ _ _ q)⟩
theorem PW_imp {X : Cx} {e : Expr} {t t' : TT} (h : PW X e t) (i : ∀ σ H Q, t' σ H Q → t σ H Q) : PW X e t' := ⟨fun wh pins s σ H Q I q => h.run wh pins s σ H Q I (i _ _ _ q)⟩
theorem PA_imp {X : Cx} {es : List Expr} {t t' : TA} (h : PA X es t) (i : ∀ σ H Q, t' σ H Q → t σ H Q) : PA X es t' := ⟨fun pos pins s σ H Q I q => h.run pos pins s σ H Q I (i _ _ _ q)⟩
theorem PTs_imp {X : Cx} {es : List Expr} {t t' : TT} (h : PTs X es t) (i : ∀ σ H Q, t' σ H Q → t σ H Q) : PTs X es t' := ⟨fun pins s σ H Q I q => h.run pins s σ H Q I (i _ _ _ q)⟩
/-- what is wanted behind an evaluation -/
def Post {α : Type} (F : Fx) (W : WX) (σ : L2.St) (G H : Hp) (r : Res α) (Kt : α → Sta → Hp → Hp → Prop) : Prop :=
  match r with
  | .ok a S => ∀ G' H', Ext F.sa G H G' H' → Good F G' H' S → Kt a S G' H'
  | .exc c S => ∀ G' H', Ext F.sa G H G' H' → Good F G' H' S → W (.ref (F.ca c)) none σ H'
  | .bad => False
section
variable {F : Fx} {W : WX} {σ : L2.St} {G H G1 H1 : Hp} {S : Sta} {α β' : Type}
theorem Post.ext {r : Res α} {Kt : α → Sta → Hp → Hp → Prop} (h : Post F W σ G H r Kt) (x : Ext F.sa G H G1 H1) : Post F W σ G1 H1 r Kt := by
  cases r with
  | ok a S => exact fun G' H' y g => h G' H' (x.trans y) g
  | exc c S => exact fun G' H' y g => h G' H' (x.trans y) g
  | bad => exact h
theorem Post.bind {r : Res α} {f : α → Sta → Res β'} {Kt : β' → Sta → Hp → Hp → Prop} (h : Post F W σ G H (r.bind f) Kt) : Post F W σ G H r fun a S1 G1 H1 => Post F W σ G1 H1 (f a S1) Kt := by
  cases r with
  | ok a S => exact fun G' H' y _ => Post.ext (r := f a S) h y
  | exc c S => exact h
  | bad => exact h
theorem Post.of {o : Option α} {Kt : α → Sta → Hp → Hp → Prop} (h : Post F W σ G H (Res.of o S) Kt) (g : Good F G H S) : ∃ a, o = some a ∧ Kt a S G H := by
  cases o with
  | none => exact h.elim
  | some a => exact ⟨a, rfl, h G H Ext.refl g⟩
theorem Post.here {a : α} {Kt : α → Sta → Hp → Hp → Prop} (h : Post F W σ G H (.ok a S) Kt) (g : Good F G H S) : Kt a S G H := h G H Ext.refl g
theorem Post.fin {o : Option EV} {Q : VK} (h : Post F W σ G H (Res.of o S) fun e _ G' H' => ∀ v, VR F G' H' e v → Q v H') : Fin F S G H o Q := by
  cases o with
  | none => exact h.elim
  | some e => exact ⟨e, rfl, fun v G' H' x g r => h G' H' x g v r⟩
theorem Post.imp {r : Res α} {Kt Kt' : α → Sta → Hp → Hp → Prop} (h : Post F W σ G H r Kt) (i : ∀ a S' G' H', Ext F.sa G H G' H' → Good F G' H' S' → Kt a S' G' H' → Kt' a S' G' H') : Post F W σ G H r Kt' := by
  cases r with
  | ok a S => exact fun G' H' y g => i _ _ _ _ y g (h G' H' y g)
  | exc c S => exact h
  | bad => exact h
end
/-! ### the readings -/
def RdE (F : Fx) (cf : CallF) (W : WX) (x : Ex) : TE := fun σ H Q => ∃ G0 H0 ρ S G β, FR F G0 H0 ρ S σ G H β ∧ Post F W σ G H (eE cf F.B x ρ S) fun e _ G' H' => ∀ v, VR F G' H' e v → Q v H'
def RdA (F : Fx) (cf : CallF) (W : WX) (xs : List Ex) : TA := fun σ H Q => ∃ G0 H0 ρ S G β, FR F G0 H0 ρ S σ G H β ∧ Post F W σ G H (eEs cf F.B xs ρ S) fun es _ G' H' => ∀ vs, VRs F G' H' es vs → Q vs H'
/-- a test's -/
def eT (cf : CallF) (B : Lent) (x : Ex) (ρ : Rho) (S : Sta) : Res Bool := (eE cf B x ρ S).bind fun v S1 => Res.of (truth B v) S1
def RdT (F : Fx) (cf : CallF) (W : WX) (x : Ex) : TT := fun σ H Q => ∃ G0 H0 ρ S G β, FR F G0 H0 ρ S σ G H β ∧ Post F W σ G H (eT cf F.B x ρ S) fun b _ _ H' => Q b H'
section
variable {F : Fx} {cf : CallF} {W : WX} {σ : L2.St} {G H G0 H0 : Hp} {S : Sta} {ρ : Rho} {β : Nat → List Addr} {a : Ex}
theorem RdE.mk {Q : VK} {Kt : EV → Sta → Hp → Hp → Prop} (fr : FR F G0 H0 ρ S σ G H β) (h : Post F W σ G H (eE cf F.B a ρ S) Kt)
    (q : ∀ e S1 G1 H1 u, Ext F.sa G H G1 H1 → FR F G0 H0 ρ S1 σ G1 H1 β → VR F G1 H1 e u → Kt e S1 G1 H1 → Q u H1) : RdE F cf W a σ H Q :=
  ⟨G0, H0, ρ, S, G, β, fr, h.imp fun e S1 G1 H1 x g k v r => q e S1 G1 H1 v x (fr.step x g) r k⟩
theorem RdA.mk {xs : List Ex} {Q : List V → Hp → Prop} {Kt : List EV → Sta → Hp → Hp → Prop} (fr : FR F G0 H0 ρ S σ G H β) (h : Post F W σ G H (eEs cf F.B xs ρ S) Kt)
    (q : ∀ es S1 G1 H1 us, Ext F.sa G H G1 H1 → FR F G0 H0 ρ S1 σ G1 H1 β → VRs F G1 H1 es us → Kt es S1 G1 H1 → Q us H1) : RdA F cf W xs σ H Q :=
  ⟨G0, H0, ρ, S, G, β, fr, h.imp fun e S1 G1 H1 x g k v r => q e S1 G1 H1 v x (fr.step x g) r k⟩
theorem RdT.mk {Q : Bool → Hp → Prop} {Kt : Bool → Sta → Hp → Hp → Prop} (fr : FR F G0 H0 ρ S σ G H β) (h : Post F W σ G H (eT cf F.B a ρ S) Kt)
    (q : ∀ b S1 G1 H1, Ext F.sa G H G1 H1 → FR F G0 H0 ρ S1 σ G1 H1 β → Kt b S1 G1 H1 → Q b H1) : RdT F cf W a σ H Q :=
  ⟨G0, H0, ρ, S, G, β, fr, h.imp fun e S1 G1 H1 x g k => q e S1 G1 H1 x (fr.step x g) k⟩
theorem VRs.ext {F : Fx} {G H G' H' : Hp} (x : Ext F.sa G H G' H') : ∀ {es : List EV} {vs : List V}, VRs F G H es vs → VRs F G' H' es vs
  | _, _, .nil => .nil
  | _, _, .cons h r => .cons (h.ext x) (VRs.ext x r)
theorem VRs.len {F : Fx} {G H : Hp} {es : List EV} {vs : List V} (h : VRs F G H es vs) : es.length = vs.length := Paired.length h
end
/-! ### calls of defs -/
structure FnG (gd : Bool) (P : Program) (w : World) (K : PySem.W.Frag) (mg : Str → Option Value) (base : Heap) (k : Nat) (f : Addr) (fd : FuncData) (ps : List Str) (sp : Sp) : Prop where
  len : ∀ vs H Q E, sp vs H Q E → vs.length = ps.length
  run : ∀ (A : Around) (outer : List PySem.Env) (s : Shared) (H : Hp) (args : Args) (us : List Value) (vs : List V) (Q : VK) (E : XK),
    Room k A → (gd = true → A.guards = some []) → Env0 P w K mg base A outer s H → BindsTo s fd args (ps.zip us) → Vals vs us → sp vs H Q E →
    codeAny (model P w) A (.call (.ref f) args) (CR (L2.CX P w) outer P w H s Q E) s
section
variable {X : Cx} {k : Nat} {f : Addr} {fd : FuncData} {ps : List Str} {sp : Sp} {E : L2.St → XK} {x : Str} {p pos : Pos} {e : Expr} {es : List Expr} {t : TA}
theorem pe_callG {gd : Bool} (F : FnG gd X.prog X.w X.K X.mg X.base k f fd ps sp) (hr : Room k X.A) (hgu : gd = true → X.A.guards = some []) (hg : Gl X x) (hm : X.mg x = some (.ref f)) (hk : PySem.W.keepIn X.K (.ref f) = true) (hb : Binds X.K fd ps [])
    (hx : ∀ σ, PassesAt (L2.CX X.prog X.w) X σ (E σ)) (ha : PA X (e :: es) t) (hdb : (x == ("__debug__" : Str)) = false) (he : starEach (e :: es) X.env = (false, eval e X.env) :: starEach es X.env) (hpl : (backTo pos (starEach es X.env)).any (·.1) = false) :
    PE X (.Call (.Name x p) (e :: es) [] pos) (tCallS sp E t) := by
  constructor
  intro pins s σ H Q I h
  refine wpAny_Call_Name_kw (ld_glob I hg hm ?_ hdb)
  refine PySem.W.callWith_K (h₀ := X.base) I.ok.mod.kin hk (thn (ha.run pos pins s σ H _ I h) fun us s1 hh => ?_) he hpl
  obtain ⟨vs, H1, I1, r, q⟩ := hh
  refine ⟨I1.kIn, ?_⟩
  have hl : us.length = ps.length := by
    rw [← r.length]
    exact F.len _ _ _ _ q
  have b := hb s1 us I1.kIn (by simpa using hl)
  rw [List.append_nil] at b
  refine wpAny_call (codeAny_mono (F.run X.A X.stack s1 H1 ⟨us, []⟩ us vs Q (E σ) hr hgu I1.env0 b r q) fun z s' hq => ?_)
  match z, hq with
  | .error e, hq => exact hx σ pins H1 s1 e s' I1 hq
  | .ok (.ret u), hq => exact I1.after hq
  | .ok .next, hq => exact False.elim hq
  | .ok .brk, hq => exact False.elim hq
  | .ok .cont, hq => exact False.elim hq
end
structure Gl0 where
  Δ : List Fd
  gl : List Nat
  gd : Bool
def argOk : EV → Bool
  | .dat _ => true
  | .scr _ => true
  | .st => true
  | .bor _ => true
  | _ => false
/-- what the i-th def promises, by n levels of calls -/
def spD (Γ : Gl0) (K : PySem.W.Frag) (ca : Nat → Addr) (n i : Nat) : Sp := fun vs H Q E => ∃ F G S es, F.K = K ∧ F.ca = ca ∧ Good F G H S ∧ VRs F G H es vs ∧ es.all argOk = true ∧
  match run Γ.Δ n i es F.B S with
  | .ok d S' => ∀ v G' H', Ext F.sa G H G' H' → Good F G' H' S' → Rp K G' v d → Q v H'
  | .exc c S' => ∀ G' H', Ext F.sa G H G' H' → Good F G' H' S' → E (.ref (ca c)) none H'
  | .bad => False
def bltNames : List Str := ["len", "abs", "int", "str", "list", "tuple", "max", "min", "sum", "isinstance", "range", "bool", "enumerate", "zip"]
structure Ctx (Γ : Gl0) (n : Nat) (F : Fx) (W : WX) (N : List Str) (raw sc : Scope) (X : Cx) : Prop where
  hK : X.K = F.K
  hN : X.N = N
  nd : N.Nodup
  hs : X.env.scope = sc
  raw : ∀ x k, raw.names.lookup x = some k → k ≠ .free → sc.names.lookup x = some k ∧ (k = .cell → X.fn x = true)
  calm : X.calm = true
  room : Room n X.A
  gua : Γ.gd = true → X.A.guards = some []
  pass : ∀ σ, PassesAt (L2.CX X.prog X.w) X σ (WE W σ)
  blt : ∀ x, x ∈ bltNames → X.mg x = none
  glo : ∀ k, k ∈ Γ.gl → ∃ u v, X.mg (gname k) = some u ∧ RelV v u ∧ ∀ G, Rp F.K G v (gval k)
  fn : ∀ (i : Nat) (d : Fd), Γ.Δ[i]? = some d → ∃ f fdt ps, X.mg d.name = some (.ref f) ∧ PySem.W.keepIn X.K (.ref f) = true ∧ Binds X.K fdt ps [] ∧ FnG Γ.gd X.prog X.w X.K X.mg X.base n f fdt ps (spD Γ F.K F.ca n i)
section
variable {Γ : Gl0} {n : Nat} {F : Fx} {W : WX} {N : List Str} {raw sc : Scope} {X : Cx}
theorem Ctx.units (C : Ctx Γ n F W N raw sc X) : X.A.units + 66 < cLine := by
  have h := C.room.un
  omega
theorem Ctx.sub (C : Ctx Γ n F W N raw sc X) {x : Str} (h : sc.names.lookup x = some .globalImplicit) : Gl X x := by
  unfold Gl PySem.Env.kindOf
  rw [C.hs]
  exact h
end
end Cw

namespace Cw
open PySem PySem.Spec PyProof.Rows L2
/-! ### lent lists -/
theorem passA_ok {F : Fx} {G H : Hp} {S : Sta} (g : Good F G H S) : ∀ {es : List EV} {vs : List V} {n : Nat} {r : List EV × Lent} {pre : List Addr}, VRs F G H es vs → passA F.B n es = some r → pre.length = n →
    ∃ al : List Addr, al.length = r.2.length ∧ (∀ (k : Nat) (a : Addr) (xs : List PyData), al[k]? = some a → r.2[k]? = some xs → a ≠ F.sa ∧ ∃ ws, H a = some (.lst ws) ∧ RpAll F.K G ws xs) ∧
      ∀ F' : Fx, F'.K = F.K → F'.sa = F.sa → F'.al = pre ++ al → VRs F' G H r.1 vs ∧ r.1.all argOk = true
  | [], _, n, r, pre, .nil, h, _ => by
    cases h
    exact ⟨[], rfl, fun k a xs h => by simp at h, fun _ _ _ _ => ⟨.nil, rfl⟩⟩
  | e :: es, [], n, r, pre, h0, h, hp => by cases h0
  | e :: es, u :: us, n, r, pre, h0, h, hp => by
    obtain ⟨v, vs⟩ : VR F G H e u ∧ VRs F G H es us := by
      cases h0 with
      | cons v vs => exact ⟨v, vs⟩
    have plain : ∀ {e' : EV}, (passA F.B n es).map (fun p => (e' :: p.1, p.2)) = some r → argOk e' = true → (∀ F' : Fx, F'.K = F.K → F'.sa = F.sa → VR F' G H e' u) → ∃ al : List Addr, al.length = r.2.length ∧ (∀ (k : Nat) (a : Addr) (xs : List PyData), al[k]? = some a → r.2[k]? = some xs → a ≠ F.sa ∧ ∃ ws, H a = some (.lst ws) ∧ RpAll F.K G ws xs) ∧
      ∀ F' : Fx, F'.K = F.K → F'.sa = F.sa → F'.al = pre ++ al → VRs F' G H r.1 (u :: us) ∧ r.1.all argOk = true := fun {e'} h ok hv => by
      obtain ⟨q, h1, h2⟩ := Option.map_eq_some_iff.mp h
      subst h2
      obtain ⟨al, a1, a2, a3⟩ := passA_ok g vs h1 hp
      refine ⟨al, a1, a2, fun F' k1 k2 k3 => ?_⟩
      obtain ⟨b1, b2⟩ := a3 F' k1 k2 k3
      exact ⟨.cons (hv F' k1 k2) b1, by rw [List.all_cons, ok, b2]; rfl⟩
    have lend : ∀ {xs : List PyData} {a : Addr} {ws : List V}, (passA F.B (n + 1) es).map (fun p => (EV.bor n :: p.1, xs :: p.2)) = some r → a ≠ F.sa → H a = some (.lst ws) → RpAll F.K G ws xs → V.ref a = u → ∃ al : List Addr, al.length = r.2.length ∧ (∀ (k : Nat) (a : Addr) (xs : List PyData), al[k]? = some a → r.2[k]? = some xs → a ≠ F.sa ∧ ∃ ws, H a = some (.lst ws) ∧ RpAll F.K G ws xs) ∧
      ∀ F' : Fx, F'.K = F.K → F'.sa = F.sa → F'.al = pre ++ al → VRs F' G H r.1 (u :: us) ∧ r.1.all argOk = true := fun {xs a ws} h na hl hr ev => by
      obtain ⟨q, h1, h2⟩ := Option.map_eq_some_iff.mp h
      subst h2
      obtain ⟨al, a1, a2, a3⟩ := passA_ok (pre := pre ++ [a]) g vs h1 (by rw [List.length_append, hp]; rfl)
      refine ⟨a :: al, by rw [List.length_cons, a1]; rfl, fun k b ys hb hy => ?_, fun F' k1 k2 k3 => ?_⟩
      · cases k with
        | zero =>
          have e1 : a = b := by simpa using hb
          have e2 : xs = ys := by simpa using hy
          subst e1 e2
          exact ⟨na, ws, hl, hr⟩
        | succ k => exact a2 k b ys (by simpa using hb) (by simpa using hy)
      · obtain ⟨b1, b2⟩ := a3 F' k1 k2 (by rw [k3]; simp)
        refine ⟨.cons ⟨a, ?_, ev.symm⟩ b1, by rw [List.all_cons, b2]; rfl⟩
        rw [k3, List.getElem?_append_right (by omega), hp]
        simp
    cases e with
    | dat d =>
      refine plain h rfl fun F' k1 _ => ?_
      show Rp F'.K G u d
      rw [k1]
      exact v
    | st =>
      refine plain h rfl fun F' _ k2 => ?_
      show u = V.ref F'.sa
      rw [k2]
      exact v
    | own xs =>
      obtain ⟨a, ws, e1, na, hl, hr⟩ := v
      exact lend h na hl hr e1.symm
    | bor k =>
      obtain ⟨xs, h1, h2⟩ := Option.bind_eq_some_iff.mp h
      obtain ⟨a, e1, e2⟩ := v
      obtain ⟨na, ws, hl, hr⟩ := g.bor k a xs e1 h1
      exact lend h2 na hl hr e2.symm
    | scr _ => cases h
    | tab _ => cases h
    | odi _ _ => cases h
/-! ### the check that a text is the printed one -/
def isG (sc : Scope) (x : Str) : Bool :=
  (match sc.names.lookup x with
  | some .globalImplicit => true
  | _ => false) && !(x == ("__debug__" : Str)) && !(x == ("__name__" : Str))
def isV (N : List Str) (sc : Scope) (i : Nat) (x : Str) : Bool :=
  (match sc.names.lookup x with
  | some .local => true
  | some .cell => true
  | some .free => true
  | _ => false) && decide (N[i]? = some x) && !(x == ("__debug__" : Str)) && !(x == ("__classdict__" : Str))
/-- a name that is stored -/
def isL (N : List Str) (raw : Scope) (i : Nat) (x : Str) : Bool :=
  (match raw.names.lookup x with
  | some .local => true
  | some .cell => true
  | _ => false) && decide (N[i]? = some x)
def bname : Blt → Str
  | .len => "len"
  | .abs => "abs"
  | .int => "int"
  | .str => "str"
  | .list => "list"
  | .tuple => "tuple"
  | .max => "max"
  | .min => "min"
  | .sum => "sum"
def tname : Ty → Str
  | .int => "int"
  | .bool => "bool"
  | .str => "str"
  | .tuple => "tuple"
  | .list => "list"
def mTy (sc : Scope) (t : Ty) (e : Expr) : Bool :=
  match e with
  | .Name x _ => isG sc x && x == tname t
  | _ => false
def mTys (sc : Scope) : List Ty → List Expr → Bool
  | [], [] => true
  | t :: ts, e :: es => mTy sc t e && mTys sc ts es
  | _, _ => false
def ownP (N : List Str) (own : List Nat) : List (Str × Nat) := own.filterMap fun i => (N[i]?).map fun x => (x, i)
mutual
def mP (N : List Str) (raw : Scope) : Pat → Expr → Bool
  | .v i, e => match e with
    | .Name x _ => isL N raw i x
    | _ => false
  | .t ps, e => match e with
    | .Tuple es _ _ => mPs N raw ps es
    | _ => false
def mPs (N : List Str) (raw : Scope) : List Pat → List Expr → Bool
  | [], es => match es with
    | [] => true
    | _ => false
  | p :: ps, es => match es with
    | e :: es => mP N raw p e && mPs N raw ps es
    | _ => false
end
mutual
def patVs : Pat → List Nat
  | .v i => [i]
  | .t ps => patVss ps
def patVss : List Pat → List Nat
  | [] => []
  | p :: ps => patVs p ++ patVss ps
end
def notNil {α : Type} : List α → Bool
  | [] => false
  | _ => true
mutual
def mE (Γ : Gl0) (N : List Str) : Ex → Scope → Expr → Bool
  | .c d, sc, e => match d, e with
    | .int i, .Constant (.int j) _ _ => decide (i = j)
    | .str s, .Constant (.str t) _ _ => decide (s = t)
    | .bool b, .Constant (.bool c) _ _ => b == c
    | .none, .Constant .none _ _ => true
    | _, _ => false
  | .g k, sc, e => match e with
    | .Name x _ => isG sc x && x == gname k && Γ.gl.contains k
    | _ => false
  | .v i, sc, e => match e with
    | .Name x _ => isV N sc i x
    | _ => false
  | .tup es, sc, e => match e with
    | .Tuple xs _ _ => mEs Γ N es sc xs
    | _ => false
  | .lst es, sc, e => match e with
    | .List xs _ => mEs Γ N es sc xs
    | _ => false
  | .bin o a b, sc, e => match e with
    | .BinOp x op y _ => decide (op = opn o) && mE Γ N a sc x && mE Γ N b sc y
    | _ => false
  | .neg a, sc, e => match e with
    | .UnaryOp .USub x _ => mE Γ N a sc x
    | _ => false
  | .not a, sc, e => match e with
    | .UnaryOp .Not x _ => mE Γ N a sc x
    | _ => false
  | .ands es, sc, e => match e with
    | .BoolOp .And xs _ => notNil es && mEs Γ N es sc xs
    | _ => false
  | .ors es, sc, e => match e with
    | .BoolOp .Or xs _ => notNil es && mEs Γ N es sc xs
    | _ => false
  | .cmp o a b, sc, e => match e with
    | .Compare x [op] [y] _ => decide (op = cop o) && mE Γ N a sc x && mE Γ N b sc y
    | _ => false
  | .chn o p a b c, sc, e => match e with
    | .Compare x [op, op'] [y, z] _ => decide (op = cop o) && decide (op' = cop p) && mE Γ N a sc x && mE Γ N b sc y && mE Γ N c sc z
    | _ => false
  | .ite c a b, sc, e => match e with
    | .IfExp t x y _ => mE Γ N c sc t && mE Γ N a sc x && mE Γ N b sc y
    | _ => false
  | .sub a i, sc, e => match e with
    | .Subscript x y _ => mE Γ N a sc x && mE Γ N i sc y
    | _ => false
  | .slc a, sc, e => match e with
    | .Subscript x (.Slice none none none _) _ => mE Γ N a sc x
    | _ => false
  | .slcL a lo, sc, e => match e with
    | .Subscript x (.Slice (some l) none none _) _ => mE Γ N a sc x && mE Γ N lo sc l
    | _ => false
  | .slcH a hi, sc, e => match e with
    | .Subscript x (.Slice none (some h) none _) _ => mE Γ N a sc x && mE Γ N hi sc h
    | _ => false
  | .slcB a lo hi, sc, e => match e with
    | .Subscript x (.Slice (some l) (some h) none _) _ => mE Γ N a sc x && mE Γ N lo sc l && mE Γ N hi sc h
    | _ => false
  | .rev a, sc, e => match e with
    | .Subscript x (.Slice none none (some (.UnaryOp .USub (.Constant (.int i) _ _) _)) _) _ => decide (i = 1) && mE Γ N a sc x
    | _ => false
  | .call f es, sc, e => match e with
    | .Call (.Name x _) xs [] _ => isG sc x && decide (Γ.Δ[f]?.map Fd.name = some x) && notNil es && mEs Γ N es sc xs
    | _ => false
  | .blt f es, sc, e => match e with
    | .Call (.Name x _) xs [] _ => isG sc x && x == bname f && notNil es && mEs Γ N es sc xs
    | _ => false
  | .isi a ts one, sc, e => match e with
    | .Call (.Name x _) [y, t] [] _ => isG sc x && x == ("isinstance" : Str) && mE Γ N a sc y && (if one then (match ts with
      | [t'] => mTy sc t' t
      | _ => false) else (match t with
      | .Tuple es _ _ => mTys sc ts es && notNil ts && decide (ts.length ≤ 3)
      | _ => false))
    | _ => false
  | .mth .join a es, sc, e => match a, e with
    | .c (.str s), .Call (.Attribute (.Constant (.str s') _ _) m apos) [x] [] pos => decide (s = s') && m == ("join" : Str) && decide (apos.endLine = pos.line) && mEs Γ N es sc [x]
    | _, _ => false
  | .mtd, sc, e => match e with
    | .Dict [] [] _ => true
    | _ => false
  | .lc own p s cs x, sc, e => match e with
    | .ListComp elt [⟨tg, iter, ifs, 0⟩] scope _ => L2.blkC N sc scope (ownP N own) && decide ((ownP N own).map (·.2) = own) && (patVs p).all own.contains && mP N scope p tg && mS Γ N s sc iter && mEs Γ N cs (L2.relS scope sc) ifs && decide (cs.length ≤ 1) && mE Γ N x (L2.relS scope sc) elt
    | _ => false
  | .lc2 own own1 p s cs p1 s1 cs1 x, sc, e => match e with
    | .ListComp elt [⟨tg, iter, ifs, 0⟩, ⟨tg1, iter1, ifs1, 0⟩] scope _ => L2.blkC N sc scope (ownP N own) && decide ((ownP N own).map (·.2) = own) && own1.all own.contains && (patVs p).all own.contains && (patVs p1).all own1.contains && mP N scope p tg && mS Γ N s sc iter && mEs Γ N cs (L2.relS scope sc) ifs && decide (cs.length ≤ 1) &&
        mP N scope p1 tg1 && mS Γ N s1 (L2.relS scope sc) iter1 && mEs Γ N cs1 (L2.relS scope sc) ifs1 && decide (cs1.length ≤ 1) && mE Γ N x (L2.relS scope sc) elt
    | _ => false
def mEs (Γ : Gl0) (N : List Str) : List Ex → Scope → List Expr → Bool
  | [], _, xs => match xs with
    | [] => true
    | _ => false
  | a :: as, sc, xs => match xs with
    | x :: xs => mE Γ N a sc x && mEs Γ N as sc xs
    | _ => false
def mS (Γ : Gl0) (N : List Str) : Src → Scope → Expr → Bool
  | .val a, sc, e => mE Γ N a sc e
  | .rng1 a, sc, e => match e with
    | .Call (.Name x _) [y] [] _ => isG sc x && x == ("range" : Str) && mE Γ N a sc y
    | _ => false
  | .rng2 a b, sc, e => match e with
    | .Call (.Name x _) [y, z] [] _ => isG sc x && x == ("range" : Str) && mE Γ N a sc y && mE Γ N b sc z
    | _ => false
  | .enu _, _, _ => false
  | .zip _ _, _, _ => false
end
end Cw

namespace HT
open PySem PySem.Spec PyProof.Rows L2
section
variable {prog : Program} {w : World} {A : Around} {E : Value → Shared → Prop} {s : Shared}
theorem cw_applied_rev {sl : Addr} {t : Tok} {n : Nat} {Q : Int × Int × Nat → Shared → Prop} (hs : s.heap.IsSliceOf sl .none .none (.int (-1) t)) (h : Q ((n : Int) - 1, -1, n) s) :
    wpAny (model prog w) A (Builtin.Slice.sliceApplied (.ref sl) (pure (n : Int))) Q E s := by
  obtain ⟨os, hos, hcs, hds⟩ := id hs
  unfold Builtin.Slice.sliceApplied Builtin.Slice.sliceFields
  refine wpAny_bind (wpAny_bind (wpAny_field hos hds (x := .none) rfl (wpAny_bind (wpAny_field hos hds (x := .none) rfl
    (wpAny_bind (wpAny_field hos hds (x := .int (-1) t) rfl (wpAny_pure ?_)))))))
  refine wpAny_bind (slicePart_int ?_)
  show wpAny _ _ (if ((-1 : Int) == 0) = true then _ else _) _ _ s
  rw [if_neg (by decide)]
  refine wpAny_bind (slicePart_none (wpAny_bind (slicePart_none (wpAny_bind (wpAny_pure ?_)))))
  have e1 : Builtin.Slice.sliceAdjust none none (-1) (n : Int) = ((n : Int) - 1, -1) := rfl
  have e2 : Builtin.Slice.slicePlaces ((n : Int) - 1) (-1) (-1) = n := by
    unfold Builtin.Slice.slicePlaces
    rw [if_neg (by decide)]
    have e3 : -(-1 : Int) = 1 := rfl
    rw [e3, Int.ediv_one]
    split <;> omega
  show wpAny _ _ (match Builtin.Slice.sliceAdjust none none (-1) (n : Int) with
    | (lo, hi) => pure (lo, (-1 : Int), Builtin.Slice.slicePlaces lo hi (-1))) _ _ s
  rw [e1]
  show wpAny _ _ (pure ((n : Int) - 1, (-1 : Int), Builtin.Slice.slicePlaces ((n : Int) - 1) (-1) (-1))) _ _ s
  rw [e2]
  exact wpAny_pure h
theorem cw_pick_rev (xs : Array Value) : ((List.range xs.size).filterMap fun (k : Nat) => xs[((xs.size : Int) - 1 + (k : Int) * (-1)).toNat]?).toArray = xs.toList.reverse.toArray := by
  obtain ⟨l⟩ := xs
  congr 1
  apply List.ext_getElem?
  intro i
  have e : (List.range l.length).filterMap (fun (k : Nat) => l[((l.length : Int) - 1 + (k : Int) * (-1)).toNat]?) = (List.range l.length).map (fun k => l.getD (l.length - 1 - k) .none) := by
    have key : ∀ ks : List Nat, (∀ k ∈ ks, k < l.length) → ks.filterMap (fun (k : Nat) => l[((l.length : Int) - 1 + (k : Int) * (-1)).toNat]?) = ks.map (fun k => l.getD (l.length - 1 - k) .none) := by
      intro ks
      induction ks with
      | nil => intro _; rfl
      | cons k ks ih =>
        intro hk
        have h1 : k < l.length := hk k List.mem_cons_self
        have h2 : ((l.length : Int) - 1 + (k : Int) * (-1)).toNat = l.length - 1 - k := by omega
        have h3 : l[l.length - 1 - k]? = some (l.getD (l.length - 1 - k) .none) := by
          rw [List.getD_eq_getElem?_getD, List.getElem?_eq_getElem (by omega)]
          rfl
        rw [List.filterMap_cons, h2, h3, List.map_cons, ih fun k' hk' => hk k' (List.mem_cons_of_mem _ hk')]
    exact key _ fun k hk => List.mem_range.mp hk
  simp only [List.size_toArray, List.getElem?_toArray]
  rw [e, List.getElem?_map]
  by_cases hi : i < l.length
  · rw [List.getElem?_range hi, List.getElem?_reverse hi]
    show some (l.getD (l.length - 1 - i) .none) = _
    rw [List.getD_eq_getElem?_getD, List.getElem?_eq_getElem (by omega)]
    rfl
  · rw [List.getElem?_eq_none (by simp; omega), List.getElem?_eq_none (by simp; omega)]
    rfl
theorem cw_getItem_tuple_rev {t sl : Addr} {items : Array Value} {tk : Tok} {Q : Value → Shared → Prop} (ht : IsTup s.heap t items) (hs : s.heap.IsSliceOf sl .none .none (.int (-1) tk))
    (h : Q (.ref s.heap.objs.size) { s with heap := s.heap.push { cls := .type "tuple", data := .seq items.toList.reverse.toArray } })
    (hsz : items.size ≤ sizeLine) : wpAny (model prog w) A (getItem (.ref t) (.ref sl)) Q E s := by
  have hfit : sizeOk (.seq items.toList.reverse.toArray) := by
    show items.toList.reverse.toArray.size ≤ sizeLine
    rw [List.size_toArray, List.length_reverse, Array.length_toList]
    exact hsz
  obtain ⟨os, hos, hcs, hds⟩ := id hs
  have hTs : s.TypeIs (.ref sl) "slice" := ⟨os, hos, hcs⟩
  unfold getItem
  try with_reducible refine wpAny_holding ?_
  first
    | refine wpAny_bind (wpAny_pure ?_)
    | skip
  refine wpAny_bind (wpAny_sequenceKey ht.typeIs (by decide) ?_)
  refine wpAny_bind (wpAny_callSpecial?_slot (name := Str.ofString "__getitem__") ht.typeIs PyProof.Rows.slot_tuple_getitem (wpAny_call_entry PyProof.Rows.slot_tuple_getitem ht.typeIs
    entry_tuple_getitem ?_ (args_tuple_getitem _ _)))
  show wpAny _ _ (Builtin.Tuple.tupleItemsOf (.ref t) >>= _) _ _ s
  refine wpAny_bind (tupleItemsOf_ ht ?_)
  refine wpAny_bind (wpAny_typeOf hTs ?_)
  rw [if_pos (by decide)]
  refine wpAny_bind (cw_applied_rev hs ?_)
  have hno : ¬ ((((items.size : Int) - 1) == 0 && (-1 : Int) == 1 && items.size == items.size) = true) := by
    intro q
    simp at q
  show wpAny _ _ (if (((items.size : Int) - 1) == 0 && (-1 : Int) == 1 && items.size == items.size) = true then _ else _) _ _ s
  rw [if_neg hno, cw_pick_rev]
  first
    | exact wpAny_bind (m := Builtin.Tuple.tupleExact _) (wpAny_newObj_type (wpAny_pure ⟨_, rfl, wpAny_pure h⟩) hfit)
    | exact wpAny_bind (m := Builtin.Tuple.tupleExact _) (wpAny_newObj_type (wpAny_bind (wpAny_pure (wpAny_pure ⟨_, rfl, wpAny_pure h⟩))) hfit)
    | exact wpAny_bind (wpAny_bind (m := Builtin.Tuple.tupleExact _) (wpAny_newObj_type (wpAny_pure (wpAny_pure ⟨_, rfl, wpAny_pure h⟩)) hfit))
    | exact wpAny_bind (wpAny_bind (m := Builtin.Tuple.tupleExact _) (wpAny_newObj_type (wpAny_pure ⟨_, rfl, wpAny_pure h⟩) hfit))
end
end HT
namespace Cw
open PySem PySem.Spec PyProof.Rows L2
/-- a text from behind, as the model reckons it -/
theorem text_rev (x : Tx) (t : Tok) (u : Tok) : sliceMade x t none none (some (-1, u)) = .str ⟨x.cps.reverse⟩ := by
  unfold sliceMade
  have e0 : slicePicked x none none (some (-1, u)) = (List.range x.cps.size).reverse := by
    show Builtin.Str.strSliceIndices none none (-1) x.length = _
    have e1 : Builtin.Str.strSliceIndices none none (-1) x.length = sliceRange ((x.cps.size : Int) - 1) (-1) (-1) := rfl
    rw [e1, PySem.W.krv_sliceRange, PySem.W.krv_range]
  rw [if_neg (by
    show ¬ ((-1 : Int) == 1 && _) = true
    intro q
    rw [Bool.and_eq_true] at q
    exact absurd q.1 (by decide)), e0, List.filterMap_reverse, PySem.W.krv_all]
  rw [← Array.toList_reverse, Array.toArray_toList]
def rRevV (F : Fx) : V → Hp → VK → Prop := fun x H Q => ∃ G S e, Good F G H S ∧ VR F G H e x ∧ Fin F S G H (revE F.B e) Q
section
variable {X : Cx} {F : Fx}
theorem pe_rev (hK : X.K = F.K) {e : Expr} {te : TE} {k : Nat} {p1 p2 p3 pos : Pos} (he : PE X e te) :
    PE X (.Subscript e (.Slice none none (some (.UnaryOp .USub (.Constant (.int 1) k p1) p2)) p3) pos) (fun σ H Q => te σ H fun x H1 => rRevV F x H1 Q) := by
  constructor
  intro pins s σ H Q I h
  refine Subscript_ (thn (he.run pins s σ H _ I h) fun v s1 h1 => ?_)
  obtain ⟨x, H1, I1, r1, G, S, ev, g, vr, fin⟩ := h1
  have hst : PO X (some (.UnaryOp .USub (.Constant (.int 1) k p1) p2)) (tPart (tUn (rU fun i => .int (-i)) (tC (.int 1)))) := po_some (pe_un un_neg pe_int)
  refine wpAny_Slice (thn (po_none.run pins s1 σ H1 (fun o H2 => o = none ∧ H2 = H1) I1 ⟨rfl, rfl⟩) fun vl s2 h2 => ?_)
  obtain ⟨l, H2, I2, pl, el, e2⟩ := h2
  subst el e2
  refine thn (po_none.run pins s2 σ H2 (fun o H3 => o = none ∧ H3 = H2) I2 ⟨rfl, rfl⟩) fun vu s3 h3 => ?_
  obtain ⟨u, H3, I3, pu, eu, e3⟩ := h3
  subst eu e3
  refine thn (hst.run pins s3 σ H3 (fun o H4 => o = some (-1) ∧ H4 = H3) I3 ⟨1, rfl, -1, rfl, rfl, rfl⟩) fun vs s4 h4 => ?_
  obtain ⟨o, H4, I4, ps, eo, e4⟩ := h4
  subst eo e4
  have I5 : Inv X pins σ H4 { s4 with heap := s4.heap.push { cls := .type "slice", data := .fields #[vl, vu, vs] } } := I4.kept (t' := s4.toks) fun b ob q => Heap.get?_push_of_some _ q
  have hsl : (s4.heap.push { cls := .type "slice", data := .fields #[vl, vu, vs] }).IsSliceOf s4.heap.objs.size vl vu vs := Heap.IsSliceOf.new _ vl vu vs
  show wpAny (model X.prog X.w) X.A (subscriptTail e (.Slice none none (some (.UnaryOp .USub (.Constant (.int 1) k p1) p2)) p3) v (.ref s4.heap.objs.size)) (EP X pins σ Q) X.xe { s4 with heap := s4.heap.push { cls := .type "slice", data := .fields #[vl, vu, vs] } }
  generalize hb : revE F.B ev = o at fin
  cases o with
  | none =>
    obtain ⟨e, he, _⟩ := fin
    cases he
  | some d =>
    unfold revE at hb
    split at hb
    · rename_i sx
      split at hb
      · rename_i hl
        cases hb
        cases Rp.str_inv vr
        obtain ⟨t, rfl⟩ := r1
        cases pl
        cases pu
        cases ps with
        | int _ tk =>
          refine tail_any (T := "str") (ops := [.ref s4.heap.objs.size, .str sx t]) ?_ (PySem.F.slot_str_getitem.lookup) ?_ (by with_unfolding_all rfl)
          · exact typeIs_str _ _ _
          refine wpAny_getItem_str_slice (l := none) (u := none) (st := some (-1, tk)) hsl rfl ?_
          rw [text_rev]
          refine ⟨?_, .str _, _, I5.tok _, ⟨_, rfl⟩, fin.str g⟩
          show Array.size _ ≤ sizeLine
          rw [Array.size_reverse]
          exact lenOk_le hl
      · cases hb
    · cases hb
      obtain ⟨a, ws, ex, h1, rr⟩ := Rp.tup_inv vr
      subst ex
      cases r1
      obtain ⟨its, r, ht, hz⟩ := I5.tuple (a := a) (xs := ws) (by rw [hK]; exact sqT_sub g.sub h1)
      cases pl
      cases pu
      cases ps with
      | int _ tk =>
        refine tail_any (ops := [.ref a, .ref s4.heap.objs.size]) ht.typeIs (PyProof.Rows.slot_tuple_getitem.lookup) ?_ (by with_unfolding_all rfl)
        refine HT.cw_getItem_tuple_rev ht hsl ?_ (by rw [List.size_toArray, ← r.length]; exact hz)
        have hf : H4 (s4.heap.push { cls := .type "slice", data := .fields #[.none, .none, .int (-1) tk] }).objs.size = none := I5.hok.fresh (Nat.le_refl _)
        refine ⟨.ref _, _, I5.laid (t' := s4.toks) (o := .tup ws.reverse) (fun b ob q => Heap.get?_push_of_some _ q) (Nat.le_refl _) ?_, rfl, fin.tup g rr.rev _ hf⟩
        exact ⟨by rw [List.length_reverse]; exact hz, its.reverse, r.reverse, ⟨_, Heap.get?_push_size _ rfl, rfl, 0, rfl⟩⟩
    · obtain ⟨xs, h1, h2⟩ := Option.map_eq_some_iff.mp hb
      subst h2
      obtain ⟨a, ws, ex, h3, rr⟩ := lst_at g h1 vr
      subst ex
      cases r1
      obtain ⟨its, r, ht, hz⟩ := I5.list (a := a) (xs := ws) (SqL.of h3)
      refine tail_any (ops := [.ref a, .ref s4.heap.objs.size]) ht.isList.typeIs (PySem.slot_list_getitem.lookup) ?_ (by with_unfolding_all rfl)
      refine wpAny_getItem_list_slice ht.isList hsl pl pu ps (by decide) ?_ (by rw [List.size_toArray, ← r.length]; exact hz)
      rw [PySem.W.krv_pick]
      have hf : H4 (s4.heap.push { cls := .type "slice", data := .fields #[vl, vu, vs] }).objs.size = none := I5.hok.fresh (Nat.le_refl _)
      refine ⟨.ref _, _, I5.laid (t' := s4.toks) (o := .lst ws.reverse) (fun b ob q => Heap.get?_push_of_some _ q) (Nat.le_refl _) ?_, rfl, fin.lst g rr.rev _ hf⟩
      exact ⟨by rw [List.length_reverse]; exact hz, its.reverse, 0, r.reverse, Heap.get?_push_size _ rfl⟩
end
end Cw

namespace Cw
open PySem PySem.Spec PyProof.Rows L2
section
variable {Γ : Gl0} {N : List Str}
theorem mE_star (x : Ex) (sc : Scope) (e : Expr) (p : Pos) : mE Γ N x sc (.Starred e p) = false := by
  cases x <;> first
    | rfl
    | (rename_i d; cases d <;> rfl)
    | (rename_i m a es; cases m; cases a <;> first | rfl | (rename_i d; cases d <;> rfl))
theorem mE_slice (x : Ex) (sc : Scope) (a b c : Option Expr) (p : Pos) : mE Γ N x sc (.Slice a b c p) = false := by
  cases x <;> first
    | rfl
    | (rename_i d; cases d <;> rfl)
    | (rename_i m a es; cases m; cases a <;> first | rfl | (rename_i d; cases d <;> rfl))
theorem mE_set (x : Ex) (sc : Scope) (es : List Expr) (k : Nat) (p : Pos) : mE Γ N x sc (.Set es k p) = false := by
  cases x <;> first
    | rfl
    | (rename_i d; cases d <;> rfl)
    | (rename_i m a es; cases m; cases a <;> first | rfl | (rename_i d; cases d <;> rfl))
structure Shape (e : Expr) : Prop where
  star : ∀ (es : List Expr) (env : PySem.Env), starEach (e :: es) env = (false, eval e env) :: starEach es env
  ix : PlainIx e
  mark : ∀ op, behindInMarks op e = false
  fold : ∀ (env : PySem.Env) (v : Value), foldedSetIterable e env v = pure v
theorem mE_shape {x : Ex} {sc : Scope} {e : Expr} (h : mE Γ N x sc e = true) : Shape e := by
  cases e with
  | Starred a p => rw [mE_star] at h; cases h
  | Slice a b c p => rw [mE_slice] at h; cases h
  | Set es k p => rw [mE_set] at h; cases h
  | _ => exact ⟨fun _ _ => rfl, fun _ _ => rfl, fun _ => rfl, fun _ _ => rfl⟩
theorem mEs_plain : ∀ {xs : List Ex} {sc : Scope} {es : List Expr}, mEs Γ N xs sc es = true → ∀ (env : PySem.Env) (pos : Pos), (backTo pos (starEach es env)).any (·.1) = false
  | [], _, [], _, _, _ => rfl
  | [], _, _ :: _, h, _, _ => by cases h
  | _ :: _, _, [], h, _, _ => by cases h
  | x :: xs, sc, e :: es, h, env, pos => by
    have h' : mE Γ N x sc e = true ∧ mEs Γ N xs sc es = true := by simpa [mEs] using h
    rw [(mE_shape h'.1).star]
    show (false || (backTo pos (starEach es env)).any (·.1)) = false
    rw [mEs_plain h'.2 env pos]
    rfl
end

/-! ### small facts -/
section
variable {Γ : Gl0} {n : Nat} {F : Fx} {W : WX} {N : List Str} {raw sc : Scope} {X : Cx}
theorem Ctx.glob (C : Ctx Γ n F W N raw sc X) {x : Str} (h : isG sc x = true) : Gl X x ∧ (x == ("__debug__" : Str)) = false ∧ x ≠ "__name__" := by
  unfold isG at h
  simp only [Bool.and_eq_true, Bool.not_eq_true'] at h
  obtain ⟨⟨h1, h2⟩, h3⟩ := h
  refine ⟨C.sub ?_, h2, fun e => ?_⟩
  · split at h1
    · assumption
    · cases h1
  · rw [e] at h3
    exact absurd h3 (by decide)
theorem Ctx.vis (C : Ctx Γ n F W N raw sc X) {i : Nat} {x : Str} (h : isV N sc i x = true) : X.N[i]? = some x ∧ Vis X.env.scope x ∧ (x == ("__debug__" : Str)) = false ∧ (x == ("__classdict__" : Str)) = false := by
  unfold isV at h
  simp only [Bool.and_eq_true, Bool.not_eq_true', decide_eq_true_eq] at h
  obtain ⟨⟨⟨h1, h2⟩, h3⟩, h4⟩ := h
  refine ⟨by rw [C.hN]; exact h2, ?_, h3, h4⟩
  unfold Vis
  rw [C.hs]
  split at h1
  · exact .inl (by assumption)
  · exact .inr (.inl (by assumption))
  · exact .inr (.inr (by assumption))
  · cases h1
theorem Ctx.loc (C : Ctx Γ n F W N raw sc X) {i : Nat} {x : Str} (h : isL N raw i x = true) : X.N[i]? = some x ∧ Loc X.env.scope x ∧ (X.fn x = true ∨ X.env.scope.names.lookup x = some .local) := by
  unfold isL at h
  simp only [Bool.and_eq_true, decide_eq_true_eq] at h
  obtain ⟨h1, h2⟩ := h
  rw [C.hN]
  unfold L2.Loc
  rw [C.hs]
  split at h1
  · rename_i hl
    obtain ⟨e1, _⟩ := C.raw x .local hl (by decide)
    exact ⟨h2, .inl e1, .inr e1⟩
  · rename_i hl
    obtain ⟨e1, e2⟩ := C.raw x .cell hl (by decide)
    exact ⟨h2, .inr e1, .inl (e2 rfl)⟩
  · cases h1
theorem isTrue_sub {e : Expr} (hn : ∀ a p, e ≠ .UnaryOp .Not a p) (hb : ∀ o es p, e ≠ .BoolOp o es p) (hi : ∀ a b c p, e ≠ .IfExp a b c p) (hc : ∀ a o es p, e ≠ .Compare a o es p) (env : PySem.Env) (whole : Sem Value) :
    isTrue e env whole = (do let v ← whole; standAt e.pos; holding [v] (truthy v)) := by
  cases e with
  | UnaryOp o a p =>
    cases o with
    | Not => exact absurd rfl (hn a p)
    | _ => rfl
  | BoolOp o es p => exact absurd rfl (hb o es p)
  | IfExp a b c p => exact absurd rfl (hi a b c p)
  | Compare a o es p => exact absurd rfl (hc a o es p)
  | _ => rfl
def tIteT (c t u : TT) : TT := fun σ H Q => c σ H fun b H1 => if b = true then t σ H1 Q else u σ H1 Q
theorem pt_ite {c a b : Expr} {pos : Pos} {tc ta tb : TT} (hc : PT X c tc) (ha : PT X a ta) (hb : PT X b tb) : PT X (.IfExp c a b pos) (tIteT tc ta tb) := by
  constructor
  intro pins s σ H Q I h
  show wpAny _ _ (do if ← isTrue c X.env (eval c X.env) then isTrue a X.env (eval a X.env) else isTrue b X.env (eval b X.env)) _ _ s
  refine wpAny_bind (thn (hc.run pins s σ H _ I h) fun d s1 h1 => ?_)
  obtain ⟨H1, I1, q1⟩ := h1
  cases d with
  | true => exact ha.run pins s1 σ H1 Q I1 q1
  | false => exact hb.run pins s1 σ H1 Q I1 q1

/-! ### types -/
def tstr : Ty → String
  | .int => "int"
  | .bool => "bool"
  | .str => "str"
  | .tuple => "tuple"
  | .list => "list"
theorem boot_ty (t : Ty) : bootBuiltins (tname t) = some (.type (tstr t)) := by cases t <;> decide +kernel
theorem tname_mem (t : Ty) : tname t ∈ bltNames := by cases t <;> decide +kernel
/-- the kind of a value -/
def kindE : EV → String
  | .dat .none => "NoneType"
  | .dat (.bool _) => "bool"
  | .dat (.int _) => "int"
  | .dat (.str _) => "str"
  | .dat (.tuple _) => "tuple"
  | .dat (.dict _) => "dict"
  | _ => "list"
theorem kt_same {K : PySem.W.Frag} (s t : Ty) : PySem.W.kitOne K (.type (tstr s)) (.type (tstr t)) = some (Ty.same s t) := by
  cases s <;> cases t <;> exact kit_ty (by decide +kernel)
theorem kt_none {K : PySem.W.Frag} (t : Ty) : PySem.W.kitOne K (.type "NoneType") (.type (tstr t)) = some false := by
  cases t <;> exact kit_ty (by decide +kernel)
theorem kt_dict {K : PySem.W.Frag} (t : Ty) : PySem.W.kitOne K (.type "dict") (.type (tstr t)) = some false := by
  cases t <;> exact kit_ty (by decide +kernel)
theorem kind_ty {K : PySem.W.Frag} {e : EV} {t : Ty} {b : Bool} (h : tyIs e t = some b) : PySem.W.kitOne K (.type (kindE e)) (.type (tstr t)) = some b := by
  cases e with
  | dat d =>
    cases d with
    | none => cases h; exact kt_none t
    | bool b => cases h; exact kt_same .bool t
    | int i => cases h; exact kt_same .int t
    | str x => cases h; exact kt_same .str t
    | list ds => cases h; exact kt_same .list t
    | tuple ds => cases h; exact kt_same .tuple t
    | dict kvs => cases h; exact kt_dict t
  | scr _ => cases h
  | tab _ => cases h
  | odi _ _ => cases h
  | st => cases h; exact kt_same .list t
  | bor _ => cases h; exact kt_same .list t
  | own _ => cases h; exact kt_same .list t
theorem kind_any {K : PySem.W.Frag} {e : EV} : ∀ {ts : List Ty} {b : Bool}, tyAny e ts = some b → PySem.W.kitAny K (.type (kindE e)) (ts.map fun t => .type (tstr t)) = some b
  | [], b, h => by
    cases h
    exact kitAny_nil
  | t :: ts, b, h => by
    obtain ⟨b1, h1, h2⟩ := Option.bind_eq_some_iff.mp h
    obtain ⟨b2, h3, h4⟩ := Option.map_eq_some_iff.mp h2
    refine kitAny_cons (kind_ty h1) (fun z => ?_) (fun z => ?_)
    · subst z h4
      exact kind_any h3
    · subst z h4
      rfl
theorem tup_ty {K : PySem.W.Frag} {H : Hp} {a : Addr} {vs : List V} (h : SqT K H a vs) : TyX K H (.ref a) (.type "tuple") := by
  rcases h with (h | ⟨o, h⟩) | ⟨o, its, m, h1, h2, _⟩
  · exact .base (.tup h)
  · exact .fTuple h
  · exact .kTuple h1 h2
theorem ty_of {G H : Hp} {S : Sta} (g : Good F G H S) {e : EV} {v : V} {t : Ty} {b : Bool} (h : tyIs e t = some b) (r : VR F G H e v) : TyX F.K H v (.type (kindE e)) := by
  cases e with
  | dat d =>
    cases d with
    | none => cases Rp.non_inv r; exact .base .non
    | bool b => cases Rp.bl_inv r; exact .base (.bl b)
    | int i => cases Rp.int_inv r; exact .base (.int i)
    | str x => cases Rp.str_inv r; exact .base (.str x)
    | list ds =>
      obtain ⟨a, vs, e, h1, _⟩ := Rp.lst_inv r
      subst e
      exact .base (.lst (g.sub _ _ h1))
    | tuple ds =>
      obtain ⟨a, vs, e, h1, _⟩ := Rp.tup_inv r
      subst e
      exact tup_ty (sqT_sub g.sub h1)
    | dict kvs =>
      cases r with
      | dic0 h1 => exact .base (.dK (g.sub _ _ h1))
  | scr _ => cases h
  | tab _ => cases h
  | odi _ _ => cases h
  | st =>
    obtain ⟨vs, h1, _⟩ := g.st
    have e : v = .ref F.sa := r
    subst e
    exact .base (.lst h1)
  | bor k =>
    obtain ⟨a, e1, e2⟩ := r
    subst e2
    have hk : k < F.B.length := by
      rw [← g.len]
      exact (List.getElem?_eq_some_iff.mp e1).1
    obtain ⟨_, vs, h1, _⟩ := g.bor k a _ e1 (List.getElem?_eq_getElem hk)
    exact .base (.lst h1)
  | own xs =>
    obtain ⟨a, vs, e1, _, h1, _⟩ := r
    subst e1
    exact .base (.lst h1)
theorem ty_of_any {G H : Hp} {S : Sta} (g : Good F G H S) {e : EV} {v : V} {t : Ty} {ts : List Ty} {b : Bool} (h : tyAny e (t :: ts) = some b) (r : VR F G H e v) : TyX F.K H v (.type (kindE e)) := by
  obtain ⟨b1, h1, _⟩ := Option.bind_eq_some_iff.mp h
  exact ty_of g h1 r
theorem pe_ty (C : Ctx Γ n F W N raw sc X) {t : Ty} {e : Expr} (h : mTy sc t e = true) : PE X e (tC (.ty (tstr t))) ∧ Shape e := by
  cases e with
  | Name x p =>
    have h' : isG sc x = true ∧ x = tname t := by
      have h1 : (isG sc x && x == tname t) = true := h
      simpa using h1
    obtain ⟨h1, h2⟩ := h'
    obtain ⟨g1, g2, g3⟩ := C.glob h1
    refine ⟨pe_bltn g1 (C.blt _ (by rw [h2]; exact tname_mem t)) (by rw [h2]; exact boot_ty t) rfl g3 g2, ?_⟩
    exact ⟨fun _ _ => rfl, fun _ _ => rfl, fun _ => rfl, fun _ _ => rfl⟩
  | _ => cases h
theorem pa_tys (C : Ctx Γ n F W N raw sc X) : ∀ {ts : List Ty} {es : List Expr}, mTys sc ts es = true → PA X es (fun _ H Q => Q (ts.map fun t => .ty (tstr t)) H)
  | [], [], _ => pa_nil
  | [], _ :: _, h => by cases h
  | _ :: _, [], h => by cases h
  | t :: ts, e :: es, h => by
    have h' : mTy sc t e = true ∧ mTys sc ts es = true := by
      have h1 : (mTy sc t e && mTys sc ts es) = true := h
      simpa using h1
    obtain ⟨p, s⟩ := pe_ty C h'.1
    exact PA_imp (pa_cons p (pa_tys C h'.2) (s.star es X.env)) fun _ _ _ q => q
end
end Cw

namespace Cw
open PySem PySem.Spec PyProof.Rows L2
/-- a walk over such data -/
def Keeps (F : Fx) (st : Bool) (G1 H1 H2 : Hp) : Prop := ∀ b o, H1 b = some o → b ≠ F.sa → (st = true → G1 b = some o ∨ b ∈ F.al) → H2 b = some o
def WalkD (F : Fx) (st : Bool) (G1 H1 : Hp) (xs : List PyData) (J : It) : Prop :=
  ∃ (Gd : Hp → Prop) (Y : Nat → Hp → V → Hp → Prop), Walk J xs.length Gd Y ∧ (∀ H2, Keeps F st G1 H1 H2 → Gd H2) ∧
    ∀ i H x H', i < xs.length → Keeps F st G1 H1 H → Y i H x H' → ∃ d, xs[i]? = some d ∧
      ((H' = H ∧ Rp F.K G1 x d) ∨ ∃ T a b p q, x = .ref T ∧ H T = none ∧ H' = upd H T (.tup [a, b]) ∧ d = .tuple [p, q] ∧ Rp F.K G1 a p ∧ Rp F.K G1 b q)
theorem walkD_list {F : Fx} {st : Bool} {a : Addr} {G1 H1 : Hp} {vs : List V} {xs : List PyData} (n : a ≠ F.sa) (h : H1 a = some (.lst vs)) (w : st = true → G1 a = some (.lst vs) ∨ a ∈ F.al) (r : RpAll F.K G1 vs xs) : WalkD F st G1 H1 xs (Itl F.K a) := by
  refine ⟨_, _, by rw [← r.len]; exact walk_list, fun H2 k => SqL.of (k _ _ h n w), fun i H x H' hi k y => ?_⟩
  obtain ⟨e, hx⟩ := y
  obtain ⟨v, h1, h2⟩ := r.get (List.getElem?_eq_getElem hi)
  rw [hx] at h1
  cases h1
  exact ⟨_, List.getElem?_eq_getElem hi, .inl ⟨e, h2⟩⟩
theorem walkD_tup {F : Fx} {st : Bool} {a : Addr} {G1 H1 : Hp} {vs : List V} {xs : List PyData} (s : Sub G1 H1) (n : G1 F.sa = none) (h : SqT F.K G1 a vs) (r : RpAll F.K G1 vs xs) : WalkD F st G1 H1 xs (Itt F.K a) := by
  refine ⟨_, _, by rw [← r.len]; exact walk_tup, fun H2 k => ?_, fun i H x H' hi k y => ?_⟩
  · rcases h with (h | ⟨o, h⟩) | h
    · exact .inl (.inl (k _ _ (s _ _ h) (fun e => by rw [e, n] at h; cases h) fun _ => .inl h))
    · exact .inl (.inr ⟨o, k _ _ (s _ _ h) (fun e => by rw [e, n] at h; cases h) fun _ => .inl h⟩)
    · exact .inr h
  · obtain ⟨e, hx⟩ := y
    obtain ⟨v, h1, h2⟩ := r.get (List.getElem?_eq_getElem hi)
    rw [hx] at h1
    cases h1
    exact ⟨_, List.getElem?_eq_getElem hi, .inl ⟨e, h2⟩⟩
theorem signs_len (z : Tx) : (signs z).length = z.cps.size := by
  unfold signs
  rw [List.length_map, Array.length_toList]
theorem walkD_str {F : Fx} {st : Bool} {G1 H1 : Hp} (z : Tx) : WalkD F st G1 H1 (signs z) (Its z) := by
  refine ⟨_, _, by rw [signs_len]; exact walk_str, fun _ _ => trivial, fun i H x H' hi k y => ?_⟩
  obtain ⟨e, c, hc, ex⟩ := y
  subst ex
  refine ⟨.str ⟨#[c]⟩, ?_, .inl ⟨e, .str _⟩⟩
  unfold signs
  rw [List.getElem?_map]
  have h1 : z.cps.toList[i]? = some c := by simpa using hc
  rw [h1]
  rfl
theorem rngL_len : ∀ (n : Nat) (lo : Int), (rngL lo n).length = n
  | 0, _ => rfl
  | n + 1, lo => by
    show (rngL (lo + 1) n).length + 1 = n + 1
    rw [rngL_len n]
theorem rngL_get : ∀ (n : Nat) (lo : Int) (i : Nat), i < n → (rngL lo n)[i]? = some (.int (lo + i))
  | 0, _, _, h => absurd h (Nat.not_lt_zero _)
  | n + 1, lo, 0, _ => by
    show some (PyData.int lo) = _
    simp
  | n + 1, lo, i + 1, h => by
    show (rngL (lo + 1) n)[i]? = _
    rw [rngL_get n (lo + 1) i (by omega)]
    congr 2
    omega
theorem walkD_rng {F : Fx} {st : Bool} {G1 H1 : Hp} (lo : Int) (n : Nat) : WalkD F st G1 H1 (rngL lo n) (Itr lo n) := by
  refine ⟨_, _, by rw [rngL_len]; exact walk_range, fun _ _ => trivial, fun i H x H' hi k y => ?_⟩
  obtain ⟨e, ex⟩ := y
  rw [rngL_len] at hi
  subst ex
  exact ⟨_, rngL_get n lo i hi, .inl ⟨e, .int _⟩⟩
def RdS (F : Fx) (cf : CallF) (W : WX) (st : Bool) (s : Src) : TI := fun σ H R => ∃ G0 H0 ρ S G β, FR F G0 H0 ρ S σ G H β ∧ Post F W σ G H (eSrc cf F.B st s ρ S) fun xs _ G' H' => ∀ J, WalkD F st G' H' xs J → R J H'
section
variable {Γ : Gl0} {n : Nat} {F : Fx} {W : WX} {cf : CallF} {N : List Str} {raw sc : Scope} {X : Cx} {tg : Expr} {st : Bool}
theorem pi_val (hK : X.K = F.K) {e : Ex} {l : Expr} (h : PE X l (RdE F cf W e)) : PI X tg l (RdS F cf W st (.val e)) := by
  constructor
  intro pins s σ H R I hw
  obtain ⟨G0, H0, ρ, S, G, β, fr, post⟩ := hw
  change Post F W σ G H ((eE cf F.B e ρ S).bind fun v S1 => Res.of (stabL st v (srcItems F.B v)) S1) _ at post
  generalize hr : eE cf F.B e ρ S = r at post
  cases r with
  | bad => exact post.elim
  | exc c S1 => exact (pi_list h).run pins s σ H R I ⟨G0, H0, ρ, S, G, β, fr, by rw [hr]; exact post⟩
  | ok v S1 =>
    change Post F W σ G H (Res.of (stabL st v (srcItems F.B v)) S1) _ at post
    generalize hs : stabL st v (srcItems F.B v) = o at post
    cases o with
    | none => exact post.elim
    | some xs =>
      have hb : (!st || stab v) = true ∧ srcItems F.B v = some xs := by
        unfold stabL at hs
        split at hs
        · exact ⟨by assumption, hs⟩
        · cases hs
      clear hs
      obtain ⟨hb, hs⟩ := hb
      change ∀ G' H', Ext F.sa G H G' H' → Good F G' H' S1 → ∀ J, WalkD F st G' H' xs J → R J H' at post
      have byL : lstOf F.B v = some xs → (∀ G' H' u, VR F G' H' v u → Good F G' H' S1 → ∃ a vs, u = .ref a ∧ a ≠ F.sa ∧ H' a = some (.lst vs) ∧ (st = true → G' a = some (.lst vs) ∨ a ∈ F.al) ∧ RpAll F.K G' vs xs) → wpAny (model X.prog X.w) X.A (eval l X.env) (fun v s1 => wpAny (model X.prog X.w) X.A (pyIter v) (PIE X pins σ tg R) X.xe s1) X.xe s := fun hl hv => by
        refine (pi_list h).run pins s σ H R I ⟨G0, H0, ρ, S, G, β, fr, ?_⟩
        rw [hr]
        intro G' H' x g u vr
        obtain ⟨a, vs, e1, na, h1, hw, h2⟩ := hv G' H' u vr g
        refine ⟨a, e1, ⟨vs, SqL.of h1⟩, post G' H' x g _ ?_⟩
        rw [hK]
        exact walkD_list na h1 hw h2
      cases v with
      | dat d =>
        cases d with
        | str z =>
          have e1 : signs z = xs := Option.some.inj hs
          subst e1
          refine (pi_str h).run pins s σ H R I ⟨G0, H0, ρ, S, G, β, fr, ?_⟩
          rw [hr]
          intro G' H' x g u vr
          exact ⟨z, Rp.str_inv vr, post G' H' x g _ (walkD_str z)⟩
        | tuple ds =>
          have e1 : ds = xs := Option.some.inj hs
          subst e1
          refine (pi_tup h).run pins s σ H R I ⟨G0, H0, ρ, S, G, β, fr, ?_⟩
          rw [hr]
          intro G' H' x g u vr
          obtain ⟨a, vs, e1, h1, h2⟩ := Rp.tup_inv vr
          refine ⟨a, e1, ⟨vs, by rw [hK]; exact sqT_sub g.sub h1⟩, post G' H' x g _ ?_⟩
          rw [hK]
          exact walkD_tup g.sub g.stn h1 h2
        | list ds =>
          refine byL hs fun G' H' u vr g => ?_
          have e1 : ds = xs := Option.some.inj hs
          subst e1
          obtain ⟨a, vs, e1, h1, h2⟩ := Rp.lst_inv vr
          exact ⟨a, vs, e1, (fun e => by rw [e, g.stn] at h1; cases h1), g.sub _ _ h1, fun _ => .inl h1, h2⟩
        | _ => cases hs
      | own ys =>
        refine byL hs fun G' H' u vr g => ?_
        have e1 : ys = xs := Option.some.inj hs
        subst e1
        obtain ⟨a, vs, e1, na, h1, h2⟩ := vr
        exact ⟨a, vs, e1, na, h1, (fun e => by rw [e] at hb; cases hb), h2⟩
      | bor k =>
        refine byL hs fun G' H' u vr g => ?_
        obtain ⟨a, e1, e2⟩ := vr
        obtain ⟨na, vs, h1, h2⟩ := g.bor k a xs e1 hs
        exact ⟨a, vs, e2, na, h1, fun _ => .inr (List.mem_of_getElem? e1), h2⟩
      | _ => cases hs
theorem small_ok {i : Int} (h : small62 i = true) : -(2 ^ 62) ≤ i ∧ i < 2 ^ 62 := by
  have h' : -1000000000 ≤ i ∧ i ≤ 1000000000 := by
    unfold small62 at h
    simpa using h
  omega
theorem mem_range : ("range" : Str) ∈ bltNames := by decide +kernel
theorem pi_rng1 (C : Ctx Γ n F W N raw sc X) {a : Ex} {y : Expr} {p pos : Pos} (hx : isG sc "range" = true) (sy : Shape y) (h : PE X y (RdE F cf W a)) : PI X tg (.Call (.Name "range" p) [y] [] pos) (RdS F cf W st (.rng1 a)) := by
  obtain ⟨g1, _, _⟩ := C.glob hx
  have gm := C.blt _ mem_range
  constructor
  intro pins s σ H R I hw
  obtain ⟨G0, H0, ρ, S, G, β, fr, post⟩ := hw
  change Post F W σ G H ((eE cf F.B a ρ S).bind fun v S1 => Res.of (rng1Of v) S1) _ at post
  refine (pi_range1 g1 gm (pa_cons h pa_nil (sy.star [] X.env)) (sy.star [] X.env)).run pins s σ H R I (RdE.mk fr (Post.bind post) fun v S1 G1 H1 u x fr1 vr p1 => ?_)
  obtain ⟨ds, e1, p2⟩ := Post.of p1 fr1.good
  obtain ⟨i, e2, e3⟩ := Option.bind_eq_some_iff.mp e1
  split at e3
  · rename_i hs
    cases e3
    obtain ⟨b1, b2⟩ := small_ok hs
    exact ⟨i, by rw [int_of e2 vr], b1, b2, p2 _ (walkD_rng 0 _)⟩
  · cases e3
theorem pi_rng2 (C : Ctx Γ n F W N raw sc X) {a b : Ex} {y z : Expr} {p pos : Pos} (hx : isG sc "range" = true) (sy : Shape y) (sz : Shape z) (h : PE X y (RdE F cf W a)) (h' : PE X z (RdE F cf W b)) : PI X tg (.Call (.Name "range" p) [y, z] [] pos) (RdS F cf W st (.rng2 a b)) := by
  obtain ⟨g1, _, _⟩ := C.glob hx
  have gm := C.blt _ mem_range
  constructor
  intro pins s σ H R I hw
  obtain ⟨G0, H0, ρ, S, G, β, fr, post⟩ := hw
  change Post F W σ G H ((eE cf F.B a ρ S).bind fun v S1 => (eE cf F.B b ρ S1).bind fun w S2 => Res.of (rng2Of v w) S2) _ at post
  have s2 := sz.star [] X.env
  refine (pi_range2 g1 gm (pa_cons h (pa_cons h' pa_nil s2) (sy.star [z] X.env)) (by rw [sy.star, s2]; rfl) (by rw [s2]; rfl)).run pins s σ H R I (RdE.mk fr (Post.bind post) fun v S1 G1 H1 u x fr1 vr p1 => RdE.mk fr1 (Post.bind p1) fun w S2 G2 H2 u2 x2 fr2 vr2 p2 => ?_)
  obtain ⟨ds, e1, p3⟩ := Post.of p2 fr2.good
  obtain ⟨i, e2, e3⟩ := Option.bind_eq_some_iff.mp e1
  obtain ⟨j, e4, e5⟩ := Option.bind_eq_some_iff.mp e3
  split at e5
  · rename_i hs
    cases e5
    rw [Bool.and_eq_true] at hs
    obtain ⟨b1, b2⟩ := small_ok hs.1
    obtain ⟨b3, b4⟩ := small_ok hs.2
    exact ⟨i, j, by rw [int_of e2 vr, int_of e4 vr2], ⟨b1, b2, b3, b4⟩, p3 _ (walkD_rng i _)⟩
  · cases e5
end
end Cw

namespace Cw
open PySem PySem.Spec PyProof.Rows L2
/-! ### patterns -/
mutual
def gP (K : PySem.W.Frag) : Pat → TG
  | .v i => gName i
  | .t ps => gTup K ps.length (gPs K ps)
def gPs (K : PySem.W.Frag) : List Pat → TGs
  | [] => gNil
  | p :: ps => gCons (gP K p) (gPs K ps)
end
section
variable {Γ : Gl0} {n : Nat} {F : Fx} {W : WX} {cf : CallF} {N : List Str} {raw sc : Scope} {X : Cx}
theorem mP_star (p : Pat) (e : Expr) (q : Pos) : mP N raw p (.Starred e q) = false := by
  cases p <;> rfl
theorem mP_assign {p : Pat} {e : Expr} (h : mP N raw p e = true) (es : List Expr) (env : PySem.Env) : assignEach (e :: es) env = (false, assign e env) :: assignEach es env := by
  cases e with
  | Starred a q => rw [mP_star] at h; cases h
  | _ => rfl
theorem mPs_each : ∀ {ps : List Pat} {es : List Expr} (env : PySem.Env), mPs N raw ps es = true → (assignEach es env).length = ps.length ∧ (assignEach es env).findIdx? (·.1) = none
  | [], [], _, _ => ⟨rfl, rfl⟩
  | [], _ :: _, _, h => by cases h
  | _ :: _, [], _, h => by cases h
  | p :: ps, e :: es, env, h => by
    have h' : mP N raw p e = true ∧ mPs N raw ps es = true := by simpa [mPs] using h
    obtain ⟨h1, h2⟩ := mPs_each (ps := ps) env h'.2
    rw [mP_assign h'.1]
    refine ⟨by rw [List.length_cons, List.length_cons, h1], ?_⟩
    rw [List.findIdx?_cons, h2]
    rfl
mutual
theorem pg_pat (C : Ctx Γ n F W N raw sc X) : ∀ {p : Pat} {e : Expr}, mP N raw p e = true → PG X e (gP F.K p)
  | .v i, e, h => by
    cases e with
    | Name x q =>
      obtain ⟨h1, h2, h3⟩ := C.loc (i := i) (x := x) h
      exact pg_name (by rw [C.hN]; exact C.nd) h1 h2 h3
    | _ => cases h
  | .t ps, e, h => by
    cases e with
    | Tuple es k q =>
      have h' : mPs N raw ps es = true := h
      obtain ⟨h1, h2⟩ := mPs_each (ps := ps) X.env h'
      have r := pg_tup (k := k) (pos := q) C.calm (pgs_pat C h') h1 h2
      rw [C.hK] at r
      exact r
    | _ => cases h
theorem pgs_pat (C : Ctx Γ n F W N raw sc X) : ∀ {ps : List Pat} {es : List Expr}, mPs N raw ps es = true → PGs X es (gPs F.K ps)
  | [], [], _ => pgs_nil
  | [], _ :: _, h => by cases h
  | _ :: _, [], h => by cases h
  | p :: ps, e :: es, h => by
    have h' : mP N raw p e = true ∧ mPs N raw ps es = true := by simpa [mPs] using h
    exact pgs_cons (pg_pat C h'.1) (pgs_pat C h'.2) (by rw [mP_assign h'.1]; rfl)
end
end
/-! ### slots -/
section
variable {F : Fx} {G0 H0 G H : Hp} {ρ : Rho} {S : Sta} {σ : L2.St} {β : Nat → List Addr}
/-- a slot gets a value that is not the frame's own -/
theorem FR.setV (f : FR F G0 H0 ρ S σ G H β) (i : Nat) {e : EV} {v : V} (no : ∀ xs, e ≠ .own xs) (r : VR F G H e v) : FR F G0 H0 (ρ.set i (some e)) S (σ.set i (some v)) G H β where
  good := f.good
  ext := f.ext
  new := f.new
  one := f.one
  off := f.off
  len := by rw [List.length_set, List.length_set]; exact f.len
  slot := fun j u h => by
    by_cases hj : i = j
    · subst hj
      have hi : i < ρ.length := by
        have := (List.getElem?_eq_some_iff.mp h).1
        simpa using this
      rw [List.getElem?_set_self hi] at h
      cases h
      refine ⟨v, by rw [List.getElem?_set_self (by rw [← f.len]; exact hi)], ?_⟩
      cases e with
      | own xs => exact absurd rfl (no xs)
      | _ => exact r
    · rw [List.getElem?_set_ne hj] at h
      obtain ⟨w, h1, h2⟩ := f.slot j u h
      exact ⟨w, by rw [List.getElem?_set_ne hj]; exact h1, h2⟩
theorem FR.set (f : FR F G0 H0 ρ S σ G H β) (i : Nat) {d : PyData} {v : V} (r : Rp F.K G v d) : FR F G0 H0 (ρ.set i (some (.dat d))) S (σ.set i (some v)) G H β :=
  f.setV i (e := .dat d) (fun _ e => by cases e) r
theorem FR.unset (f : FR F G0 H0 ρ S σ G H β) (i : Nat) : FR F G0 H0 (ρ.set i none) S (σ.set i none) G H β where
  good := f.good
  ext := f.ext
  new := f.new
  one := f.one
  off := f.off
  len := by rw [List.length_set, List.length_set]; exact f.len
  slot := fun j u h => by
    by_cases hj : i = j
    · subst hj
      have hi : i < ρ.length := by
        have := (List.getElem?_eq_some_iff.mp h).1
        simpa using this
      rw [List.getElem?_set_self hi] at h
      cases h
    · rw [List.getElem?_set_ne hj] at h
      obtain ⟨w, h1, h2⟩ := f.slot j u h
      exact ⟨w, by rw [List.getElem?_set_ne hj]; exact h1, h2⟩
theorem FR.wipe (f : FR F G0 H0 ρ S σ G H β) : ∀ vs : List Nat, FR F G0 H0 (wipeR ρ vs) S (L2.wipe σ vs) G H β
  | [] => f
  | v :: vs => (FR.wipe f vs).unset v
mutual
theorem gP_ok : ∀ {p : Pat} {d : PyData} {v : V} {ρ ρ' : Rho} {σ : L2.St} {Q : L2.St → Hp → Prop}, FR F G0 H0 ρ S σ G H β → Rp F.K G v d → bindP p d ρ = some ρ' →
    (∀ σ', FR F G0 H0 ρ' S σ' G H β → (∀ vs : List Nat, (∀ i ∈ patVs p, i ∈ vs) → L2.wipe σ' vs = L2.wipe σ vs) → Q σ' H) → gP F.K p v σ H Q
  | .v i, d, v, ρ, ρ', σ, Q, f, r, h, q => by
    cases h
    refine q _ (f.set i r) fun vs hv => ?_
    have hi : i ∈ vs := hv i (by simp [patVs])
    clear hv q
    induction vs with
    | nil => cases hi
    | cons a as ih =>
      show (L2.wipe (σ.set i (some v)) as).set a none = (L2.wipe σ as).set a none
      by_cases ha : i ∈ as
      · rw [ih ha]
      · have e : i = a := by
          rcases List.mem_cons.mp hi with e | e
          · exact e
          · exact absurd e ha
        subst e
        have key : ∀ (σ : L2.St) (as : List Nat), i ∉ as → L2.wipe (σ.set i (some v)) as = (L2.wipe σ as).set i (some v) := by
          intro σ as
          induction as with
          | nil => intro _; rfl
          | cons b bs ih2 =>
            intro hb
            have h1 : i ≠ b := fun e => hb (by rw [e]; exact List.mem_cons_self)
            show (L2.wipe (σ.set i (some v)) bs).set b none = ((L2.wipe σ bs).set b none).set i (some v)
            rw [ih2 fun m => hb (List.mem_cons_of_mem _ m), List.set_comm _ _ h1]
        rw [key σ as ha, List.set_set]
  | .t ps, d, v, ρ, ρ', σ, Q, f, r, h, q => by
    cases d with
    | tuple ds =>
      obtain ⟨a, vs, e, h1, h2⟩ := Rp.tup_inv r
      refine ⟨a, vs, e, sqT_sub f.good.sub h1, ?_, ?_⟩
      · rw [h2.len]
        exact bindPs_len h
      · exact gPs_ok f h2 h fun σ' f' w => q σ' f' fun vs hv => w vs (by simpa [patVs] using hv)
    | _ => cases h
theorem gPs_ok : ∀ {ps : List Pat} {ds : List PyData} {vs : List V} {ρ ρ' : Rho} {σ : L2.St} {Q : L2.St → Hp → Prop}, FR F G0 H0 ρ S σ G H β → RpAll F.K G vs ds → bindPs ps ds ρ = some ρ' →
    (∀ σ', FR F G0 H0 ρ' S σ' G H β → (∀ vs : List Nat, (∀ i ∈ patVss ps, i ∈ vs) → L2.wipe σ' vs = L2.wipe σ vs) → Q σ' H) → gPs F.K ps vs σ H Q
  | [], [], vs, ρ, ρ', σ, Q, f, r, h, q => by
    cases h
    cases r
    exact ⟨rfl, q _ f fun _ _ => rfl⟩
  | [], _ :: _, _, _, _, _, _, _, _, h, _ => by cases h
  | _ :: _, [], _, _, _, _, _, _, _, h, _ => by cases h
  | p :: ps, d :: ds, vs, ρ, ρ', σ, Q, f, r, h, q => by
    obtain ⟨ρ1, h1, h2⟩ := Option.bind_eq_some_iff.mp h
    cases r with
    | cons r1 r2 =>
      refine ⟨_, _, rfl, gP_ok f r1 h1 fun σ1 f1 w1 => gPs_ok f1 r2 h2 fun σ2 f2 w2 => q σ2 f2 fun vs hv => ?_⟩
      rw [w2 vs fun i hi => hv i (by simp only [patVss]; exact List.mem_append_right _ hi), w1 vs fun i hi => hv i (by simp only [patVss]; exact List.mem_append_left _ hi)]
theorem bindPs_len : ∀ {ps : List Pat} {ds : List PyData} {ρ ρ' : Rho}, bindPs ps ds ρ = some ρ' → ds.length = ps.length
  | [], [], _, _, _ => rfl
  | [], _ :: _, _, _, h => by cases h
  | _ :: _, [], _, _, h => by cases h
  | p :: ps, d :: ds, ρ, ρ', h => by
    obtain ⟨ρ1, h1, h2⟩ := Option.bind_eq_some_iff.mp h
    rw [List.length_cons, List.length_cons, bindPs_len h2]
end
end
/-! ### an object that grows -/
structure Off (F : Fx) (G0 H0 : Hp) (β : Nat → List Addr) (D : Addr) : Prop where
  sa : D ≠ F.sa
  al : ∀ (k : Nat) (a : Addr), F.al[k]? = some a → a ≠ D
  h0 : H0 D = none
  own : ∀ i, D ∉ β i
section
variable {F : Fx} {G0 H0 G H : Hp} {ρ : Rho} {S : Sta} {σ : L2.St} {β : Nat → List Addr} {D : Addr} {o : HO}
theorem Off.of (f : FR F G0 H0 ρ S σ G H β) (h : H D = none) : Off F G0 H0 β D where
  sa := fun e => by
    obtain ⟨vs, h1, _⟩ := f.good.st
    rw [e, h1] at h
    cases h
  al := fun k a ha e => by
    have hk : k < F.B.length := by
      rw [← f.good.len]
      exact (List.getElem?_eq_some_iff.mp ha).1
    obtain ⟨_, vs, h1, _⟩ := f.good.bor k a _ ha (List.getElem?_eq_getElem hk)
    rw [e, h] at h1
    cases h1
  h0 := by
    cases q : H0 D with
    | none => rfl
    | some u =>
      obtain ⟨u1, q1⟩ := f.ext.there D u q
      rw [h] at q1
      cases q1
  own := fun i hi => by
    obtain ⟨_, _, _, u, h1⟩ := f.new i D hi
    rw [h] at h1
    cases h1
theorem Good.poke (g : Good F G H S) (w : Off F G0 H0 β D) (hG : G D = none) : Good F G (upd H D o) S := by
  obtain ⟨vs, h1, h2⟩ := g.st
  refine ⟨fun a u h => ?_, g.stn, ⟨vs, by rw [upd_ne w.sa.symm]; exact h1, h2⟩, g.len, fun k a xs ha hx => ?_⟩
  · have ne : a ≠ D := fun e => by rw [e, hG] at h; cases h
    rw [upd_ne ne]
    exact g.sub a u h
  · obtain ⟨n, ws, h3, h4⟩ := g.bor k a xs ha hx
    exact ⟨n, ws, by rw [upd_ne (w.al k a ha)]; exact h3, h4⟩
theorem FR.poke (f : FR F G0 H0 ρ S σ G H β) (w : Off F G0 H0 β D) (hG : G D = none) (hD : ∃ u, H D = some u) : FR F G0 H0 ρ S σ G (upd H D o) β where
  good := f.good.poke w hG
  ext := ⟨fun b u h n => by
      have ne : b ≠ D := fun e => by rw [e, w.h0] at h; cases h
      rw [upd_ne ne]
      exact f.ext.keep b u h n,
    fun b u h => by
      have ne : b ≠ D := fun e => by rw [e, w.h0] at h; cases h
      rw [upd_ne ne]
      exact f.ext.there b u h, f.ext.data, f.ext.new⟩
  new := fun i a ha => by
    obtain ⟨h1, h2, h3, u, h4⟩ := f.new i a ha
    have ne : a ≠ D := fun e => w.own i (by rw [← e]; exact ha)
    exact ⟨h1, h2, h3, u, by rw [upd_ne ne]; exact h4⟩
  one := f.one
  off := f.off
  len := f.len
  slot := fun i e h => by
    obtain ⟨v, h1, h2⟩ := f.slot i e h
    refine ⟨v, h1, ?_⟩
    cases e with
    | own xs =>
      obtain ⟨a, vs, e1, e2, h3, h4⟩ := h2
      have ne : a ≠ D := fun e => w.own i (by rw [e2, ← e]; exact List.mem_singleton.mpr rfl)
      exact ⟨a, vs, e1, e2, by rw [upd_ne ne]; exact h3, h4⟩
    | _ => exact h2
end
end Cw

namespace Cw
open PySem PySem.Spec PyProof.Rows L2
def WF : WX := fun _ _ _ _ => False
section
variable {Γ : Gl0} {n : Nat} {F : Fx} {W : WX} {cf : CallF} {N : List Str} {raw sc : Scope} {X : Cx}
theorem Ctx.blk (C : Ctx Γ n F W N raw sc X) (s : Shared) (H : Hp) (scope : Scope) (cl : List (Str × Addr)) (D : Addr) (fp : List Addr) : Ctx Γ n F WF N scope (L2.relS scope sc) (X.blk s H scope (compEnvC scope cl D X.env) fp) where
  hK := C.hK
  hN := C.hN
  nd := C.nd
  hs := by
    show L2.relS scope X.env.scope = _
    rw [C.hs]
  raw := fun x k h hk => ⟨lookup_relS_keep hk h, fun e => by subst e; show (scope.names.lookup x == some .cell) = true; rw [h]; rfl⟩
  calm := C.calm
  room := C.room
  gua := C.gua
  pass := fun σ pins H s e s' I c => by
    obtain ⟨a, B, H', cls, d, _, _, _, _, _, _, _, w⟩ := c
    exact False.elim w
  blt := C.blt
  glo := C.glo
  fn := C.fn
end
/-! ### tests -/
def RdC (F : Fx) (cf : CallF) (W : WX) (cs : List Ex) : TT := fun σ H Q => ∃ G0 H0 ρ S G β, FR F G0 H0 ρ S σ G H β ∧ Post F W σ G H (eCs cf F.B cs ρ S) fun b _ _ H' => Q b H'
theorem ptsC_nil {X : Cx} {F : Fx} {cf : CallF} {W : WX} : PTs X [] (RdC F cf W []) := PTs_imp pts_nil fun σ H Q ⟨G0, H0, ρ, S, G, β, fr, h⟩ => h G H Ext.refl fr.good
theorem ptsC_one {X : Cx} {F : Fx} {cf : CallF} {W : WX} {c : Ex} {e : Expr} (h : PT X e (RdT F cf W c)) : PTs X [e] (RdC F cf W [c]) := PTs_imp (pts_one h) fun σ H Q q => q
/-! ### a new list -/
def RdF (F : Fx) (cf : CallF) (W : WX) (x : Ex) : TE := fun σ H Q => ∃ G0 H0 ρ S G β, FR F G0 H0 ρ S σ G H β ∧ Post F W σ G H (eE cf F.B x ρ S) fun e _ G' H' => ∃ ds, e = .dat (.list ds) ∧ ∀ D vs, H D = none → G' D = none → H' D = some (.lst vs) → RpAll F.K G' vs ds → Q (.ref D) H'
def Lsty (x : Ex) : Prop := ∀ cf B ρ S e S', eE cf B x ρ S = .ok e S' → ∃ ds, e = .dat (.list ds)
theorem Good.frz {F : Fx} {G H G' H' : Hp} {S : Sta} {D : Addr} {vs : List V} (x : Ext F.sa G H G' H') (g : Good F G' H' S) (h : H D = none) (hg : G' D = none) (hd : H' D = some (.lst vs)) (hs : ∃ o, H F.sa = some o) : Ext F.sa G H (upd G' D (.lst vs)) H' ∧ Good F (upd G' D (.lst vs)) H' S := by
  have dt : Sub G' (upd G' D (.lst vs)) := fun b u hb => by rw [upd_ne (ne_of_none hb hg)]; exact hb
  have nsa : F.sa ≠ D := fun e => by
    obtain ⟨o, ho⟩ := hs
    rw [e, h] at ho
    cases ho
  refine ⟨⟨x.keep, x.there, fun b u hb => dt _ _ (x.data b u hb), fun b u hb => ?_⟩, fun b u hb => ?_, ?_, ?_, g.len, fun k a xs h1 h2 => ?_⟩
  · by_cases e : b = D
    · rw [e]; exact .inr h
    · rw [upd_ne e] at hb
      exact x.new b u hb
  · by_cases e : b = D
    · rw [e, upd_same] at hb
      rw [e, hd]
      exact hb
    · rw [upd_ne e] at hb
      exact g.sub b u hb
  · rw [upd_ne nsa]
    exact g.stn
  · obtain ⟨ws, h1, h2⟩ := g.st
    exact ⟨ws, h1, RpAll.sub dt h2⟩
  · obtain ⟨n, ws, h3, h4⟩ := g.bor k a xs h1 h2
    exact ⟨n, ws, h3, RpAll.sub dt h4⟩
theorem peF {X : Cx} {F : Fx} {cf : CallF} {W : WX} {x : Ex} {e : Expr} (l : Lsty x) (h : PE X e (RdF F cf W x)) : PE X e (RdE F cf W x) := PE_imp h fun σ H Q ⟨G0, H0, ρ, S, G, β, fr, q⟩ => by
  refine ⟨G0, H0, ρ, S, G, β, fr, ?_⟩
  generalize hr : eE cf F.B x ρ S = r at q
  cases r with
  | bad => exact q
  | exc c S' => exact q
  | ok e S' =>
    obtain ⟨ds, he⟩ := l cf F.B ρ S e S' hr
    subst he
    intro G' H' y g
    refine ⟨ds, rfl, fun D vs h1 h2 h3 h4 => ?_⟩
    obtain ⟨ws, hs, _⟩ := fr.good.st
    obtain ⟨y', g'⟩ := Good.frz (vs := vs) y g h1 h2 h3 ⟨_, hs⟩
    exact q _ _ y' g' _ (.lst upd_same (RpAll.sub (fun b u hb => by rw [upd_ne (ne_of_none hb h2)]; exact hb) h4))
/-! ### the loop of a comprehension -/
theorem wipe_set_out {σ : L2.St} {i : Nat} {o : Option V} : ∀ {vs : List Nat}, L2.wipe (σ.set i o) vs = if i ∈ vs then L2.wipe σ vs else (L2.wipe σ vs).set i o
  | [] => by simp [L2.wipe]
  | v :: vs => by
    show (L2.wipe (σ.set i o) vs).set v none = _
    rw [wipe_set_out]
    by_cases h : i ∈ vs
    · rw [if_pos h, if_pos (List.mem_cons_of_mem _ h)]
      rfl
    · rw [if_neg h]
      by_cases e : i = v
      · subst e
        rw [if_pos List.mem_cons_self, List.set_set]
        rfl
      · rw [if_neg (by simp [e, h])]
        show ((L2.wipe σ vs).set i o).set v none = ((L2.wipe σ vs).set v none).set i o
        rw [List.set_comm _ _ e]
theorem wipe_idem {σ : L2.St} : ∀ {vs ws : List Nat}, (∀ i ∈ vs, i ∈ ws) → L2.wipe (L2.wipe σ vs) ws = L2.wipe σ ws
  | [], _, _ => rfl
  | v :: vs, ws, h => by
    show L2.wipe ((L2.wipe σ vs).set v none) ws = _
    rw [wipe_set_out, if_pos (h v List.mem_cons_self), wipe_idem fun i hi => h i (List.mem_cons_of_mem _ hi)]
/-- where a loop stands -/
structure At (F : Fx) (G1 H1 : Hp) (D : Addr) (S : Sta) (ds : List PyData) (G H : Hp) : Prop where
  ext : Ext F.sa G1 H1 G H
  good : Good F G H S
  gd : G D = none
  acc : ∃ vs, H D = some (.lst vs) ∧ RpAll F.K G vs ds
section
variable {F : Fx} {G0 H0 G1 H1 G H G' H' : Hp} {D : Addr} {S S1 : Sta} {ds : List PyData} {ρ : Rho} {σ : L2.St} {β : Nat → List Addr}
theorem At.step (a : At F G1 H1 D S ds G H) (nsa : D ≠ F.sa) (x : Ext F.sa G H G' H') (g : Good F G' H' S1) : At F G1 H1 D S1 ds G' H' := by
  obtain ⟨vs, h1, h2⟩ := a.acc
  refine ⟨a.ext.trans x, g, ?_, vs, x.keep _ _ h1 nsa, RpAll.sub x.data h2⟩
  cases q : G' D with
  | none => rfl
  | some u =>
    rcases x.new D u q with z | z
    · rw [a.gd] at z; cases z
    · rw [h1] at z; cases z
theorem At.push (a : At F G1 H1 D S ds G H) (w : Off F G0 H0 β D) (h : H1 D = none) {v : V} {d : PyData} (r : Rp F.K G v d) {vs : List V} (hv : H D = some (.lst vs)) : At F G1 H1 D S (ds ++ [d]) G (upd H D (.lst (vs ++ [v]))) := by
  obtain ⟨ws, h1, h2⟩ := a.acc
  rw [hv] at h1
  cases h1
  refine ⟨⟨fun b u hb n => ?_, fun b u hb => ?_, a.ext.data, a.ext.new⟩, a.good.poke w a.gd, a.gd, _, upd_same, RpAll.app h2 (.cons r .nil)⟩
  · rw [upd_ne (ne_of_none hb h)]
    exact a.ext.keep b u hb n
  · obtain ⟨o, ho⟩ := a.ext.there b u hb
    exact ⟨o, by rw [upd_ne (ne_of_none hb h)]; exact ho⟩
/-- what a turn gives -/
theorem At.turn {xs : List PyData} {Ga : Hp} {i : Nat} {x : V} (a : At F G1 H1 D S ds G H) (nsa : D ≠ F.sa) 
    (y : ∃ d, xs[i]? = some d ∧ ((H' = H ∧ Rp F.K Ga x d) ∨ ∃ T a b p q, x = .ref T ∧ H T = none ∧ H' = upd H T (.tup [a, b]) ∧ d = .tuple [p, q] ∧ Rp F.K Ga a p ∧ Rp F.K Ga b q)) (hs : Sub Ga G) :
    ∃ d G', xs[i]? = some d ∧ Rp F.K G' x d ∧ Ext F.sa G H G' H' ∧ Good F G' H' S := by
  obtain ⟨d, h1, y⟩ := y
  rcases y with ⟨e, r⟩ | ⟨T, p, q, dp, dq, e1, e2, e3, e4, r1, r2⟩
  · subst e
    exact ⟨d, G, h1, Rp.sub hs r, Ext.refl, a.good⟩
  · subst e1 e3 e4
    have x : Ext F.sa G H (upd G T (.tup [p, q])) (upd H T (.tup [p, q])) := Ext.obj a.good.sub e2
    have sb : Sub Ga (upd G T (.tup [p, q])) := fun b u hb => x.data b u (hs b u hb)
    exact ⟨_, _, h1, .tup (SqT.of upd_same) (.cons (Rp.sub sb r1) (.cons (Rp.sub sb r2) .nil)), x, a.good.obj e2⟩
end
end Cw

namespace Cw
open PySem PySem.Spec PyProof.Rows L2
theorem Res.bind_ok {α β : Type} {r : Res α} {f : α → Sta → Res β} {b : β} {S : Sta} (h : r.bind f = .ok b S) : ∃ a S1, r = .ok a S1 ∧ f a S1 = .ok b S := by
  cases r with
  | ok a S1 => exact ⟨a, S1, rfl, h⟩
  | exc c S1 => cases h
  | bad => cases h
section
variable {F : Fx} {cf : CallF} {G0 H0 : Hp} {ρ : Rho} {σ : L2.St} {β : Nat → List Addr} {p : Pat} {own : List Nat}
theorem eq_list {r : Res (List PyData)} {W : WX} {G H : Hp} {Kt : EV → Sta → Hp → Hp → Prop} (h : Post F W σ G H (r.strict.bind fun ds S2 => if lenOk ds.length then .ok (.dat (.list ds)) S2 else .bad) Kt) :
    ∃ ds S2, r = .ok ds S2 ∧ lenOk ds.length = true ∧ ∀ G' H', Ext F.sa G H G' H' → Good F G' H' S2 → Kt (.dat (.list ds)) S2 G' H' := by
  cases r with
  | bad => exact h.elim
  | exc c S => exact h.elim
  | ok ds S2 =>
    refine ⟨ds, S2, rfl, ?_⟩
    change Post F W σ G H (if lenOk ds.length = true then .ok (.dat (.list ds)) S2 else .bad) Kt at h
    cases hl : lenOk ds.length with
    | false => rw [hl] at h; exact h.elim
    | true => rw [hl] at h; exact ⟨rfl, h⟩
theorem acc_lt {n m : Nat} {ds es : List PyData} (h : lenOk (ds ++ es).length = true) (hm : ds.length = m) : m ≤ sizeLine := by
  have h1 := lenOk_le h
  rw [List.length_append] at h1
  omega
/-- all but D and the state list as it was -/
structure Mv (F : Fx) (D : Addr) (G H G' H' : Hp) : Prop where
  sub : Sub G G'
  keep : ∀ b o, H b = some o → b ≠ F.sa → b ≠ D → H' b = some o
theorem Mv.trans {D : Addr} {G H G1 H1 G2 H2 : Hp} (a : Mv F D G H G1 H1) (b : Mv F D G1 H1 G2 H2) : Mv F D G H G2 H2 := ⟨fun x o h => b.sub x o (a.sub x o h), fun x o h n m => b.keep x o (a.keep x o h n m) n m⟩
theorem Mv.ext {D : Addr} {G H G1 H1 : Hp} (x : Ext F.sa G H G1 H1) : Mv F D G H G1 H1 := ⟨x.data, fun b o h n _ => x.keep b o h n⟩
theorem Mv.poke {D : Addr} {G H : Hp} {o : HO} : Mv F D G H G (upd H D o) := ⟨fun _ _ h => h, fun b o h _ m => by rw [upd_ne m]; exact h⟩
/-- one turn's inside: the tests, the element, what is to hold behind -/
theorem lc_turn {cs : List Ex} {e : Ex} {G1 H1 G H : Hp} {D : Addr} {S S3 : Sta} {done rest tail total : List PyData} {d : PyData} {x : V} {xs : List PyData} {Nx : Hp → Prop} {σ0 : L2.St} (fr : FR F G0 H0 ρ S σ G H β) (w : Off F G0 H0 β D) (hD : H1 D = none)
    (a : At F G1 H1 D S done G H) (r : Rp F.K G x d) (hp : ∀ i ∈ patVs p, i ∈ own) (hσ : σ = L2.wipe σ0 own) (ht : lenOk total.length = true) (hd : total = done ++ (rest ++ tail))
    (hl : lcLoop (bindP p) (fun r T => eCs cf F.B cs r T) (fun r T => eE cf F.B e r T) ρ (d :: xs) S = .ok rest S3)
    (nx : ∀ G' H' S' done' rest', At F G1 H1 D S' done' G' H' → FR F G0 H0 ρ S' σ G' H' β → Mv F D G H G' H' → total = done' ++ (rest' ++ tail) → lcLoop (bindP p) (fun r T => eCs cf F.B cs r T) (fun r T => eE cf F.B e r T) ρ xs S' = .ok rest' S3 → Nx H') :
    gP F.K p x σ H fun σ2 H2 => L2.wipe σ2 own = L2.wipe σ0 own ∧ RdC F cf WF cs σ2 H2 fun b H3 => if b = true then RdE F cf WF e σ2 H3 fun y H4 => ∃ acc, H4 D = some (.lst acc) ∧ acc.length < sizeLine ∧ Nx (upd H4 D (.lst (acc ++ [y]))) else Nx H3 := by
  unfold lcLoop at hl
  split at hl
  · cases hl
  · rename_i ρ' hb
    obtain ⟨b, S1, h1, h2⟩ := Res.bind_ok hl
    refine gP_ok fr r hb fun σ2 fr2 hw => ⟨?_, G0, H0, ρ', S, G, β, fr2, ?_⟩
    · rw [hw own hp, hσ, wipe_idem fun i hi => hi]
    · have h1' : eCs cf F.B cs ρ' S = .ok b S1 := h1
      rw [h1']
      intro G3 H3 x3 g3
      have a3 := a.step w.sa x3 g3
      have fr3 := fr2.step x3 g3
      have fq3 := fr.step x3 g3
      cases b with
      | false =>
        refine (if_neg (by decide)).mpr ?_
        exact nx _ _ _ _ _ a3 fq3 (.ext x3) hd h2
      | true =>
        refine (if_pos rfl).mpr ?_
        obtain ⟨v, S2, h3, h4⟩ := Res.bind_ok h2
        have h3' : eE cf F.B e ρ' S1 = .ok v S2 := h3
        refine ⟨G0, H0, ρ', S1, G3, β, fr3, ?_⟩
        rw [h3']
        intro G4 H4 x4 g4 y vr
        have a4 := a3.step w.sa x4 g4
        cases v with
        | dat d' =>
          obtain ⟨ds, S4, h5, h6⟩ := Res.bind_ok h4
          cases h6
          obtain ⟨vs, q1, q2⟩ := a4.acc
          refine ⟨vs, q1, ?_, ?_⟩
          · have l1 := lenOk_le ht
            rw [hd, List.length_append, List.length_append, List.length_cons, ← q2.len] at l1
            omega
          · exact nx _ _ _ _ _ (a4.push w hD vr q1) ((fq3.step x4 g4).poke w a4.gd ⟨_, q1⟩) ((Mv.ext x3).trans ((Mv.ext x4).trans .poke)) (by rw [hd]; simp) h5
        | _ => cases h4
theorem none_of_ext {sa : Addr} {G H G1 H1 : Hp} {D : Addr} (x : Ext sa G H G1 H1) (h : H1 D = none) : H D = none := by
  cases z : H D with
  | none => rfl
  | some u =>
    obtain ⟨u', z'⟩ := x.there _ _ z
    rw [h] at z'
    cases z'
theorem none_of_sub {G1 H1 : Hp} {D : Addr} (x : Sub G1 H1) (h : H1 D = none) : G1 D = none := by
  cases z : G1 D with
  | none => rfl
  | some u =>
    have := x _ _ z
    rw [h] at this
    cases this
theorem drop_at {xs : List PyData} {i : Nat} {d : PyData} (hx : xs[i]? = some d) : xs.drop i = d :: xs.drop (i + 1) := by
  obtain ⟨hi', hx'⟩ := List.getElem?_eq_some_iff.mp hx
  rw [List.drop_eq_getElem_cons hi', hx']
/-- the reading of a comprehension -/
theorem lc_read {W : WX} {cs : List Ex} {e : Ex} {s : Src} {σ : L2.St} {H : Hp} {Q : VK} (hp : ∀ i ∈ patVs p, i ∈ own) (h : RdF F cf W (.lc own p s cs e) σ H Q) : tLc (RdS F cf W false s) (gP F.K p) (RdC F cf WF cs) (RdE F cf WF e) own σ H Q := by
  obtain ⟨G0, H0, ρ, S, G, β, fr, post⟩ := h
  change Post F W σ G H ((eSrc cf F.B false s ρ S).bind fun xs S1 => (lcLoop (bindP p) (fun r T => eCs cf F.B cs r T) (fun r T => eE cf F.B e r T) (wipeR ρ own) xs S1).strict.bind fun ds S2 => if lenOk ds.length then Res.ok (EV.dat (.list ds)) S2 else .bad) _ at post
  refine ⟨G0, H0, ρ, S, G, β, fr, (Post.bind post).imp fun xs S1 G1 H1 x1 g1 k J wk D hD => ?_⟩
  obtain ⟨total, S3, hl, ht, q⟩ := eq_list k
  obtain ⟨Gd, Y, w1, w2, w3⟩ := wk
  have fr1 := fr.step x1 g1
  have off : Off F G0 H0 β D := Off.of fr1 hD
  refine lc_it w1 (fun i H => ∃ G S done rest, At F G1 H1 D S done G H ∧ total = done ++ rest ∧ lcLoop (bindP p) (fun r T => eCs cf F.B cs r T) (fun r T => eE cf F.B e r T) (wipeR ρ own) (xs.drop i) S = .ok rest S3) ?_ ?_ ?_ ?_
  · exact ⟨G1, S1, [], total, ⟨Ext.tmp hD, g1.tmp hD, none_of_sub g1.sub hD, [], upd_same, .nil⟩, rfl, hl⟩
  · rintro i H2 hi ⟨G2, S2, done, rest, a, _, _⟩
    exact w2 H2 fun b o hb hn _ => a.ext.keep b o hb hn
  · rintro i x H2 H2' hi ⟨G2, S2, done, rest, a, hd, hl2⟩ y
    obtain ⟨d, G2', hx, r, x2, g2⟩ := a.turn (xs := xs) off.sa (w3 i H2 x H2' hi (fun b o hb hn _ => a.ext.keep b o hb hn) y) a.ext.data
    have a2 := a.step off.sa x2 g2
    rw [drop_at hx] at hl2
    exact lc_turn (xs := xs.drop (i + 1)) (tail := []) ((fr1.step a2.ext a2.good).wipe own) off hD a2 r hp rfl ht (by rw [hd, List.append_nil]) hl2 fun G H S done' rest' a' _ _ h1 h2 => ⟨G, S, done', rest', a', by rw [h1, List.append_nil], h2⟩
  · rintro H2 ⟨G2, S2, done, rest, a, hd, hl2⟩
    rw [List.drop_length] at hl2
    cases hl2
    rw [List.append_nil] at hd
    subst hd
    obtain ⟨ds, e1, q2⟩ := q _ _ a.ext a.good
    cases e1
    obtain ⟨vs, v1, v2⟩ := a.acc
    exact q2 D vs (none_of_ext x1 hD) a.gd v1 v2
/-- .. of one with two sources -/
theorem lc2_read {W : WX} {cs cs1 : List Ex} {e : Ex} {s s1 : Src} {p1 : Pat} {own1 : List Nat} {σ : L2.St} {H : Hp} {Q : VK} (hp : ∀ i ∈ patVs p, i ∈ own) (hp1 : ∀ i ∈ patVs p1, i ∈ own1) (h : RdF F cf W (.lc2 own own1 p s cs p1 s1 cs1 e) σ H Q) :
    tLc2 (RdS F cf W false s) (gP F.K p) (RdC F cf WF cs) (RdS F cf WF true s1) (gP F.K p1) (RdC F cf WF cs1) (RdE F cf WF e) own own1 σ H Q := by
  obtain ⟨G0, H0, ρ, S, G, β, fr, post⟩ := h
  change Post F W σ G H ((eSrc cf F.B false s ρ S).bind fun xs S1 => (lcFlat (bindP p) (fun r T => eCs cf F.B cs r T) (fun r T => (eSrc cf F.B true s1 r T).bind fun ys T1 => lcLoop (bindP p1) (fun r T => eCs cf F.B cs1 r T) (fun r T => eE cf F.B e r T) (wipeR r own1) ys T1) (wipeR ρ own) xs S1).strict.bind fun ds S2 => if lenOk ds.length then Res.ok (EV.dat (.list ds)) S2 else .bad) _ at post
  refine ⟨G0, H0, ρ, S, G, β, fr, (Post.bind post).imp fun xs S1 G1 H1 x1 g1 k J wk D hD => ?_⟩
  obtain ⟨total, S3, hl, ht, q⟩ := eq_list k
  obtain ⟨Gd, Y, w1, w2, w3⟩ := wk
  have fr1 := fr.step x1 g1
  have off : Off F G0 H0 β D := Off.of fr1 hD
  generalize hturn : (fun (r : Rho) (T : Sta) => (eSrc cf F.B true s1 r T).bind fun ys T1 => lcLoop (bindP p1) (fun r T => eCs cf F.B cs1 r T) (fun r T => eE cf F.B e r T) (wipeR r own1) ys T1) = turn at hl
  refine ⟨fun i m H => m = xs.length - i ∧ i ≤ xs.length ∧ ∃ G S done rest, At F G1 H1 D S done G H ∧ total = done ++ rest ∧ lcFlat (bindP p) (fun r T => eCs cf F.B cs r T) turn (wipeR ρ own) (xs.drop i) S = .ok rest S3, ⟨_, rfl, Nat.zero_le _, G1, S1, [], total, ⟨Ext.tmp hD, g1.tmp hD, none_of_sub g1.sub hD, [], upd_same, .nil⟩, rfl, hl⟩, ?_⟩
  rintro i m H2 ⟨rfl, hi, G2, S2, done, rest, a, hd, hl2⟩
  have gd := w2 H2 fun b o hb hn _ => a.ext.keep b o hb hn
  by_cases hlt : i < xs.length
  · refine .inr ⟨w1.goes i H2 hlt gd, fun H => ∃ G S done rest, At F G1 H1 D S done G H ∧ total = done ++ rest ∧ lcFlat (bindP p) (fun r T => eCs cf F.B cs r T) turn (wipeR ρ own) (xs.drop (i + 1)) S = .ok rest S3, fun H' h' => ⟨_, by omega, rfl, hlt, h'⟩, fun x H2' y => ?_⟩
    obtain ⟨d, G2', hx, r, x2, g2⟩ := a.turn (xs := xs) off.sa (w3 i H2 x H2' hlt (fun b o hb hn _ => a.ext.keep b o hb hn) (w1.yields i H2 x H2' hlt gd y)) a.ext.data
    have a2 := a.step off.sa x2 g2
    rw [drop_at hx] at hl2
    unfold lcFlat at hl2
    split at hl2
    · cases hl2
    · rename_i ρ' hb
      obtain ⟨b, S4, h1, h2⟩ := Res.bind_ok hl2
      refine gP_ok ((fr1.step a2.ext a2.good).wipe own) r hb fun σ2 fr2 hw => ⟨?_, G0, H0, ρ', S2, G2', β, fr2, ?_⟩
      · rw [hw own hp, wipe_idem fun i hi => hi]
      · have h1' : eCs cf F.B cs ρ' S2 = .ok b S4 := h1
        rw [h1']
        intro G3 H3 x3 g3
        have a3 := a2.step off.sa x3 g3
        have fr3 := fr2.step x3 g3
        cases b with
        | false =>
          refine (if_neg (by decide)).mpr ?_
          exact ⟨_, _, _, _, a3, hd, h2⟩
        | true =>
          refine (if_pos rfl).mpr ?_
          obtain ⟨zs, S5, h3, h4⟩ := Res.bind_ok h2
          obtain ⟨es, S6, h5, h6⟩ := Res.bind_ok h4
          cases h6
          rw [← hturn] at h3
          obtain ⟨ys, S7, h7, h8⟩ := Res.bind_ok h3
          refine ⟨G0, H0, ρ', S4, G3, β, fr3, ?_⟩
          have h7' : eSrc cf F.B true s1 ρ' S4 = .ok ys S7 := h7
          rw [h7']
          intro G4 H4 x4 g4 J1 wk1
          obtain ⟨Gd1, Y1, v1, v2, v3⟩ := wk1
          have a4 := a3.step off.sa x4 g4
          have fr4 := (fr3.step x4 g4).wipe own1
          have kp : ∀ {G H : Hp}, Mv F D G4 H4 G H → Sub G H → Keeps F true G4 H4 H := fun mv sb b o hb hn hk => by
            rcases hk rfl with z | z
            · exact sb _ _ (mv.sub _ _ z)
            · obtain ⟨k, hk⟩ := List.getElem?_of_mem z
              exact mv.keep b o hb hn (off.al k b hk)
          refine ⟨fun j k H => k = ys.length - j ∧ j ≤ ys.length ∧ ∃ G S done rest, At F G1 H1 D S done G H ∧ FR F G0 H0 (wipeR ρ' own1) S (L2.wipe σ2 own1) G H β ∧ Mv F D G4 H4 G H ∧ total = done ++ (rest ++ es) ∧ lcLoop (bindP p1) (fun r T => eCs cf F.B cs1 r T) (fun r T => eE cf F.B e r T) (wipeR ρ' own1) (ys.drop j) S = .ok rest S5, ⟨_, rfl, Nat.zero_le _, G4, S7, done, zs, a4, fr4, ⟨fun _ _ h => h, fun _ _ h _ _ => h⟩, hd, h8⟩, ?_⟩
          rintro j k H5 ⟨rfl, hj, G5, T5, done5, rest5, a5, fr5, mv5, hd5, hl5⟩
          have gd5 := v2 H5 (kp mv5 a5.good.sub)
          by_cases hlj : j < ys.length
          · refine .inr ⟨v1.goes j H5 hlj gd5, fun H => ∃ G S done rest, At F G1 H1 D S done G H ∧ FR F G0 H0 (wipeR ρ' own1) S (L2.wipe σ2 own1) G H β ∧ Mv F D G4 H4 G H ∧ total = done ++ (rest ++ es) ∧ lcLoop (bindP p1) (fun r T => eCs cf F.B cs1 r T) (fun r T => eE cf F.B e r T) (wipeR ρ' own1) (ys.drop (j + 1)) S = .ok rest S5, fun H' h' => ⟨_, by omega, rfl, hlj, h'⟩, fun y1 H5' yy => ?_⟩
            obtain ⟨d1, G5', hy, r1, x5, g5⟩ := a5.turn (xs := ys) off.sa (v3 j H5 y1 H5' hlj (kp mv5 a5.good.sub) (v1.yields j H5 y1 H5' hlj gd5 yy)) mv5.sub
            have a6 := a5.step off.sa x5 g5
            rw [drop_at hy] at hl5
            exact lc_turn (xs := ys.drop (j + 1)) (tail := es) (fr5.step x5 g5) off hD a6 r1 hp1 rfl ht hd5 hl5 fun G H S done' rest' a' f' m' h1 h2 => ⟨G, S, done', rest', a', f', mv5.trans ((Mv.ext x5).trans m'), h1, h2⟩
          · have e1 : j = ys.length := by omega
            subst e1
            rw [List.drop_length] at hl5
            cases hl5
            exact .inl ⟨v1.stops H5 gd5, _, _, _, _, a5, hd5, h5⟩
  · have e1 : i = xs.length := by omega
    subst e1
    rw [List.drop_length] at hl2
    cases hl2
    rw [List.append_nil] at hd
    subst hd
    obtain ⟨ds, e1, q2⟩ := q _ _ a.ext a.good
    cases e1
    obtain ⟨vs, z1, z2⟩ := a.acc
    exact .inl ⟨w1.stops H2 gd, q2 D vs (none_of_ext x1 hD) a.gd z1 z2⟩
end
end Cw

namespace Cw
open PySem PySem.Spec PyProof.Rows L2
theorem dats_rp {F : Fx} {G H : Hp} : ∀ {es : List EV} {vs : List V} {ds : List PyData}, dats es = some ds → VRs F G H es vs → RpAll F.K G vs ds
  | [], _, _, h, .nil => by cases h; exact .nil
  | e :: es, v :: vs, ds, h, h0 => by
    obtain ⟨r, rs⟩ : VR F G H e v ∧ VRs F G H es vs := by
      cases h0 with
      | cons r rs => exact ⟨r, rs⟩
    cases e with
    | dat d =>
      obtain ⟨ds', h1, h2⟩ := Option.map_eq_some_iff.mp h
      subst h2
      exact .cons r (dats_rp h1 rs)
    | _ => cases h
section
variable {Γ : Gl0} {n : Nat} {F : Fx} {W : WX} {cf : CallF} {N : List Str} {raw sc : Scope} {X : Cx} {e e2 e3 : Expr} {es : List Expr} {x y z : Ex} {xs : List Ex} {pos : Pos}
theorem k_v (C : Ctx Γ n F W N raw sc X) {i : Nat} {u : Str} {p : Pos} (h : isV N sc i u = true) : PE X (.Name u p) (RdE F cf W (.v i)) := by
  obtain ⟨h1, h2, h3, h4⟩ := C.vis h
  refine PE_imp (pe_var h1 h2 h3 h4) fun σ H Q ⟨G0, H0, ρ, S, G, β, fr, post⟩ => ?_
  have p : Post F W σ G H (match ρ[i]? with
    | some (some e) => Res.ok e S
    | _ => .bad) _ := post
  split at p
  · rename_i e he
    obtain ⟨v, h5, h6⟩ := fr.get he
    exact ⟨v, h5, p G H Ext.refl fr.good v h6⟩
  · exact p.elim
theorem k_g (C : Ctx Γ n F W N raw sc X) {k : Nat} {u : Str} {p : Pos} (h : isG sc u = true) (hu : u = gname k) (hk : k ∈ Γ.gl) : PE X (.Name u p) (RdE F cf W (.g k)) := by
  obtain ⟨h1, h2, h3⟩ := C.glob h
  obtain ⟨w, v, g1, g2, g3⟩ := C.glo k hk
  subst hu
  refine PE_imp (pe_glob h1 g1 g2 h2) fun σ H Q ⟨G0, H0, ρ, S, G, β, fr, post⟩ => ?_
  exact post G H Ext.refl fr.good v (g3 G)
theorem k_const {d : PyData} {v : V} (h : PE X e (tC v)) (r : ∀ G, Rp F.K G v d) : PE X e (RdE F cf W (.c d)) :=
  PE_imp h fun σ H Q ⟨G0, H0, ρ, S, G, β, fr, post⟩ => post G H Ext.refl fr.good v (r G)
theorem k_c {d : PyData} (h : mE Γ N (.c d) sc e = true) : PE X e (RdE F cf W (.c d)) := by
  cases d <;> cases e <;> first | (exfalso; revert h; simp [mE]; done) | skip
  all_goals
    rename_i k _ _
    cases k <;> first | (exfalso; revert h; simp [mE]; done) | skip
  · exact k_const pe_non fun _ => .non
  · have e1 := of_decide_eq_true (p := _ = _) (by simpa [mE] using h)
    subst e1
    exact k_const pe_bl fun _ => .bl _
  · have e1 := of_decide_eq_true h
    subst e1
    exact k_const pe_int fun _ => .int _
  · have e1 := of_decide_eq_true h
    subst e1
    exact k_const pe_str fun _ => .str _
theorem k_tup (h : PA X es (RdA F cf W xs)) {k : Nat} : PE X (.Tuple es k pos) (RdE F cf W (.tup xs)) := by
  refine PE_imp (pe_tup h) fun σ H Q ⟨G0, H0, ρ, S, G, β, fr, post⟩ => ?_
  change Post F W σ G H ((eEs cf F.B xs ρ S).bind fun vs S1 => Res.of ((dats vs).bind fun ds => if lenOk ds.length then some (EV.dat (.tuple ds)) else none) S1) _ at post
  refine RdA.mk fr (Post.bind post) fun vs S1 G1 H1 us x1 fr1 vr p1 => ?_
  obtain ⟨a, h1, p2⟩ := Post.of p1 fr1.good
  obtain ⟨ds, h2, h3⟩ := Option.bind_eq_some_iff.mp h1
  split at h3
  · rename_i hl
    cases h3
    have r := dats_rp h2 vr
    have fin : Fin F S1 G1 H1 (some (.dat (.tuple ds))) Q := ⟨_, rfl, fun v G' H' x g q => by
      have p3 := Post.fin p1
      obtain ⟨e', he, hq⟩ := p3
      rw [h1] at he
      cases he
      exact hq v G' H' x g q⟩
    refine ⟨by rw [r.len]; exact lenOk_le hl, fun p hp => fin.tup fr1.good r p hp⟩
  · cases h3
theorem k_lst (h : PA X es (RdA F cf W xs)) : PE X (.List es pos) (RdF F cf W (.lst xs)) := by
  refine PE_imp (pe_lst h) fun σ H Q ⟨G0, H0, ρ, S, G, β, fr, post⟩ => ?_
  change Post F W σ G H ((eEs cf F.B xs ρ S).bind fun vs S1 => Res.of ((dats vs).bind fun ds => if lenOk ds.length then some (EV.dat (.list ds)) else none) S1) _ at post
  refine RdA.mk fr (Post.bind post) fun vs S1 G1 H1 us x1 fr1 vr p1 => ?_
  generalize ho : ((dats vs).bind fun ds => if lenOk ds.length then some (EV.dat (.list ds)) else none) = o at p1
  cases o with
  | none => exact p1.elim
  | some a =>
    obtain ⟨ds, h2, h3⟩ := Option.bind_eq_some_iff.mp ho
    split at h3
    · rename_i hl
      cases h3
      have r := dats_rp h2 vr
      refine ⟨by rw [r.len]; exact lenOk_le hl, fun p hp => ?_⟩
      obtain ⟨ds', e1, q⟩ := p1 G1 (upd H1 p (.lst us)) (Ext.tmp hp) (fr1.good.tmp hp)
      cases e1
      exact q p us (none_of_ext x1 hp) (none_of_sub fr1.good.sub hp) upd_same r
    · cases h3
theorem lsty_lst : Lsty (.lst xs) := by
  intro cf B ρ S e S' h
  change (eEs cf B xs ρ S).bind (fun vs S1 => Res.of ((dats vs).bind fun ds => if lenOk ds.length then some (EV.dat (.list ds)) else none) S1) = _ at h
  obtain ⟨vs, S1, _, h2⟩ := Res.bind_ok h
  generalize ho : ((dats vs).bind fun ds => if lenOk ds.length then some (EV.dat (.list ds)) else none) = o at h2
  cases o with
  | none => cases h2
  | some a =>
    cases h2
    obtain ⟨ds, h3, h4⟩ := Option.bind_eq_some_iff.mp ho
    split at h4
    · cases h4; exact ⟨_, rfl⟩
    · cases h4
theorem strict_ok {α : Type} {r : Res α} {a : α} {S : Sta} (h : r.strict = .ok a S) : r = .ok a S := by
  cases r with
  | ok b T => exact h
  | exc c T => cases h
  | bad => cases h
theorem lsty_end {r : Res (List PyData)} {v : EV} {S : Sta} (h : (r.strict.bind fun ds S2 => if lenOk ds.length then Res.ok (EV.dat (.list ds)) S2 else .bad) = .ok v S) : ∃ ds, v = .dat (.list ds) := by
  obtain ⟨ds, S1, _, h2⟩ := Res.bind_ok h
  split at h2
  · cases h2; exact ⟨_, rfl⟩
  · cases h2
theorem lsty_lc {own : List Nat} {p : Pat} {s : Src} : Lsty (.lc own p s xs x) := by
  intro cf B ρ S e S' h
  obtain ⟨vs, S1, _, h2⟩ := Res.bind_ok h
  exact lsty_end h2
theorem lsty_lc2 {own own1 : List Nat} {p p1 : Pat} {s s1 : Src} {xs1 : List Ex} : Lsty (.lc2 own own1 p s xs p1 s1 xs1 x) := by
  intro cf B ρ S e S' h
  obtain ⟨vs, S1, _, h2⟩ := Res.bind_ok h
  exact lsty_end h2
theorem k_bin (hK : X.K = F.K) {o : Op2} (h : PE X e (RdE F cf W x)) (h2 : PE X e2 (RdE F cf W y)) : PE X (.BinOp e (opn o) e2 pos) (RdE F cf W (.bin o x y)) := by
  refine PE_imp (pe_op (op_bin hK o) h h2) fun σ H Q ⟨G0, H0, ρ, S, G, β, fr, post⟩ => ?_
  change Post F W σ G H ((eE cf F.B x ρ S).bind fun v S1 => (eE cf F.B y ρ S1).bind fun w S2 => Res.of (binE F.B o v w) S2) _ at post
  exact RdE.mk fr (Post.bind post) fun v S1 G1 H1 u x1 fr1 vr p1 => RdE.mk fr1 (Post.bind p1) fun w S2 G2 H2 u2 x2 fr2 vr2 p2 => ⟨G2, S2, v, w, fr2.good, vr.ext x2, vr2, Post.fin p2⟩
theorem k_neg (h : PE X e (RdE F cf W x)) : PE X (.UnaryOp .USub e pos) (RdE F cf W (.neg x)) := by
  refine PE_imp (pe_un un_neg h) fun σ H Q ⟨G0, H0, ρ, S, G, β, fr, post⟩ => ?_
  change Post F W σ G H ((eE cf F.B x ρ S).bind fun v S1 => Res.of ((intOf v).map fun i => EV.dat (.int (-i))) S1) _ at post
  refine RdE.mk fr (Post.bind post) fun v S1 G1 H1 u x1 fr1 vr p1 => ?_
  obtain ⟨a, h1, p2⟩ := Post.of p1 fr1.good
  obtain ⟨i, h2, h3⟩ := Option.map_eq_some_iff.mp h1
  subst h3
  exact ⟨i, int_of h2 vr, p2 _ (.int _)⟩
theorem k_not (hK : X.K = F.K) (h : PE X e (RdE F cf W x)) : PE X (.UnaryOp .Not e pos) (RdE F cf W (.not x)) := by
  refine PE_imp (pe_notT h) fun σ H Q ⟨G0, H0, ρ, S, G, β, fr, post⟩ => ?_
  change Post F W σ G H ((eE cf F.B x ρ S).bind fun v S1 => Res.of ((truth F.B v).map fun b => EV.dat (.bool (!b))) S1) _ at post
  refine RdE.mk fr (Post.bind post) fun v S1 G1 H1 u x1 fr1 vr p1 => ?_
  obtain ⟨a, h1, p2⟩ := Post.of p1 fr1.good
  obtain ⟨b, h2, h3⟩ := Option.map_eq_some_iff.mp h1
  subst h3
  exact ⟨b, tru_vals hK fr1.good h2 vr, p2 _ (.bl _)⟩
theorem bl_of {o : Option Bool} {S1 : Sta} {σ : L2.St} {G H : Hp} {Q : VK} (g : Good F G H S1) (p : Post F W σ G H (Res.of (o.map fun b => EV.dat (.bool b)) S1) fun e _ G' H' => ∀ v, VR F G' H' e v → Q v H') : ∃ b, o = some b ∧ Q (.bl b) H := by
  obtain ⟨a, h1, p2⟩ := Post.of p g
  obtain ⟨b, h2, h3⟩ := Option.map_eq_some_iff.mp h1
  subst h3
  exact ⟨b, h2, p2 _ (.bl _)⟩
theorem k_cmp (C : Ctx Γ n F W N raw sc X) {o : Cmp} (h : PE X e (RdE F cf W x)) (h2 : PE X e2 (RdE F cf W y)) (s2 : Shape e2) : PE X (.Compare e [cop o] [e2] pos) (RdE F cf W (.cmp o x y)) := by
  refine PE_imp (pe_cmpR (cmp_vals C.units C.hK o) h h2 (s2.mark _)) fun σ H Q ⟨G0, H0, ρ, S, G, β, fr, post⟩ => ?_
  change Post F W σ G H ((eE cf F.B x ρ S).bind fun v S1 => (eE cf F.B y ρ S1).bind fun w S2 => Res.of ((cmpE F.B o v w).map fun b => EV.dat (.bool b)) S2) _ at post
  exact RdE.mk fr (Post.bind post) fun v S1 G1 H1 u x1 fr1 vr p1 => RdE.mk fr1 (Post.bind p1) fun w S2 G2 H2 u2 x2 fr2 vr2 p2 => ⟨G2, S2, v, w, fr2.good, vr.ext x2, vr2, bl_of fr2.good p2⟩
theorem t_cmp (C : Ctx Γ n F W N raw sc X) {o : Cmp} (h : PE X e (RdE F cf W x)) (h2 : PE X e2 (RdE F cf W y)) (s2 : Shape e2) : PT X (.Compare e [cop o] [e2] pos) (RdT F cf W (.cmp o x y)) := by
  refine PT_imp (pt_cmpR (cmp_vals C.units C.hK o) h h2 (s2.mark _)) fun σ H Q ⟨G0, H0, ρ, S, G, β, fr, post⟩ => ?_
  have post' : Post F W σ G H ((eE cf F.B x ρ S).bind fun v S1 => (eE cf F.B y ρ S1).bind fun w S2 => Res.of (cmpE F.B o v w) S2) (fun b _ _ H' => Q b H') := by
    have e1 : eT cf F.B (.cmp o x y) ρ S = (eE cf F.B x ρ S).bind fun v S1 => (eE cf F.B y ρ S1).bind fun w S2 => Res.of (cmpE F.B o v w) S2 := by
      show ((eE cf F.B x ρ S).bind fun v S1 => (eE cf F.B y ρ S1).bind fun w S2 => Res.of ((cmpE F.B o v w).map fun b => EV.dat (.bool b)) S2).bind _ = _
      cases eE cf F.B x ρ S with
      | ok v S1 =>
        show ((eE cf F.B y ρ S1).bind fun w S2 => Res.of ((cmpE F.B o v w).map fun b => EV.dat (.bool b)) S2).bind _ = (eE cf F.B y ρ S1).bind fun w S2 => Res.of (cmpE F.B o v w) S2
        cases eE cf F.B y ρ S1 with
        | ok w S2 =>
          show (Res.of ((cmpE F.B o v w).map fun b => EV.dat (.bool b)) S2).bind _ = Res.of (cmpE F.B o v w) S2
          cases cmpE F.B o v w <;> rfl
        | _ => rfl
      | _ => rfl
    rw [e1] at post
    exact post
  refine RdE.mk fr (Post.bind post') fun v S1 G1 H1 u x1 fr1 vr p1 => RdE.mk fr1 (Post.bind p1) fun w S2 G2 H2 u2 x2 fr2 vr2 p2 => ?_
  obtain ⟨b, h3, h4⟩ := Post.of p2 fr2.good
  exact ⟨G2, S2, v, w, fr2.good, vr.ext x2, vr2, b, h3, b, rfl, h4⟩
end
end Cw

namespace Cw
open PySem PySem.Spec PyProof.Rows L2
theorem Res.assoc {α β γ : Type} {r : Res α} {f : α → Sta → Res β} {g : β → Sta → Res γ} : (r.bind f).bind g = r.bind fun a S => (f a S).bind g := by
  cases r <;> rfl
theorem Res.of_map {α β : Type} {o : Option α} {f : α → β} {S : Sta} {γ : Type} {g : β → Sta → Res γ} : (Res.of (o.map f) S).bind g = (Res.of o S).bind fun a S => g (f a) S := by
  cases o <;> rfl
theorem Res.bind_of {α : Type} {r : Res α} : (r.bind fun a S => Res.ok a S) = r := by
  cases r <;> rfl
section
variable {Γ : Gl0} {n : Nat} {F : Fx} {W : WX} {cf : CallF} {N : List Str} {raw sc : Scope} {X : Cx} {e e2 e3 : Expr} {es : List Expr} {x y z : Ex} {xs : List Ex} {pos : Pos}
theorem eT_cmp {B : Lent} {o : Cmp} {ρ : Rho} {S : Sta} : eT cf B (.cmp o x y) ρ S = (eE cf B x ρ S).bind fun v S1 => (eE cf B y ρ S1).bind fun w S2 => Res.of (cmpE B o v w) S2 := by
  show ((eE cf B x ρ S).bind fun v S1 => (eE cf B y ρ S1).bind fun w S2 => Res.of ((cmpE B o v w).map fun b => EV.dat (.bool b)) S2).bind _ = _
  simp only [Res.assoc, Res.of_map]
  exact congrArg _ (funext fun v => funext fun S1 => congrArg _ (funext fun w => funext fun S2 => Res.bind_of))
theorem chn_read {o p : Cmp} {Qb : Bool → Hp → Prop} {σ : L2.St} {G0 H0 G H : Hp} {ρ : Rho} {S : Sta} {β : Nat → List Addr} (fr : FR F G0 H0 ρ S σ G H β)
    (post : Post F W σ G H ((eE cf F.B x ρ S).bind fun v S1 => (eE cf F.B y ρ S1).bind fun w S2 => (Res.of (cmpE F.B o v w) S2).bind fun k S3 => if k = true then (eE cf F.B z ρ S3).bind fun u S4 => Res.of (cmpE F.B p w u) S4 else .ok false S3) fun b _ _ H' => Qb b H') {Q : VK} (hq : ∀ b H', Qb b H' → Q (.bl b) H') :
    tChain (rVB F (cmpE F.B o)) (rVB F (cmpE F.B p)) (RdE F cf W x) (RdE F cf W y) (RdE F cf W z) σ H Q := by
  refine RdE.mk fr (Post.bind post) fun v S1 G1 H1 u x1 fr1 vr p1 => RdE.mk fr1 (Post.bind p1) fun w S2 G2 H2 u2 x2 fr2 vr2 p2 => ?_
  obtain ⟨k, h1, p3⟩ := Post.of (Post.bind p2) fr2.good
  refine ⟨G2, S2, v, w, fr2.good, vr.ext x2, vr2, k, h1, k, rfl, ?_⟩
  cases k with
  | false =>
    rw [if_neg (by decide)] at p3 ⊢
    exact hq _ _ (p3 G2 H2 Ext.refl fr2.good)
  | true =>
    rw [if_pos rfl] at p3 ⊢
    refine RdE.mk fr2 (Post.bind p3) fun u' S4 G4 H4 u4 x4 fr4 vr4 p4 => ?_
    obtain ⟨b, h2, p5⟩ := Post.of p4 fr4.good
    exact ⟨G4, S4, w, u', fr4.good, vr2.ext x4, vr4, b, h2, hq _ _ p5⟩
theorem eE_chn {B : Lent} {o p : Cmp} {ρ : Rho} {S : Sta} : eE cf B (.chn o p x y z) ρ S = ((eE cf B x ρ S).bind fun v S1 => (eE cf B y ρ S1).bind fun w S2 => (Res.of (cmpE B o v w) S2).bind fun k S3 => if k = true then (eE cf B z ρ S3).bind fun u S4 => Res.of (cmpE B p w u) S4 else .ok false S3).bind fun b S5 => .ok (EV.dat (.bool b)) S5 := by
  show ((eE cf B x ρ S).bind fun v S1 => (eE cf B y ρ S1).bind fun w S2 => (Res.of (cmpE B o v w) S2).bind fun k S3 => if k = true then (eE cf B z ρ S3).bind fun u S4 => Res.of ((cmpE B p w u).map fun b => EV.dat (.bool b)) S4 else .ok (EV.dat (.bool false)) S3) = _
  simp only [Res.assoc]
  refine congrArg _ (funext fun v => funext fun S1 => congrArg _ (funext fun w => funext fun S2 => congrArg _ (funext fun k => funext fun S3 => ?_)))
  cases k with
  | false => rfl
  | true =>
    rw [if_pos rfl, if_pos rfl, Res.assoc]
    refine congrArg _ (funext fun u => funext fun S4 => ?_)
    cases cmpE B p w u <;> rfl
theorem k_chn (C : Ctx Γ n F W N raw sc X) {o p : Cmp} (h : PE X e (RdE F cf W x)) (h2 : PE X e2 (RdE F cf W y)) (h3 : PE X e3 (RdE F cf W z)) (s3 : Shape e3) : PE X (.Compare e [cop o, cop p] [e2, e3] pos) (RdE F cf W (.chn o p x y z)) := by
  refine PE_imp (pe_chain (cmp_vals C.units C.hK o) (cmp_vals C.units C.hK p) h h2 h3 (s3.mark _)) fun σ H Q ⟨G0, H0, ρ, S, G, β, fr, post⟩ => ?_
  rw [eE_chn] at post
  refine chn_read fr (Qb := fun b H' => Q (.bl b) H') ((Post.bind post).imp fun b S' G' H' x' g' k => ?_) fun b H' q => q
  exact (k G' H' Ext.refl g') _ (.bl b)
theorem t_chn (C : Ctx Γ n F W N raw sc X) {o p : Cmp} (h : PE X e (RdE F cf W x)) (h2 : PE X e2 (RdE F cf W y)) (h3 : PE X e3 (RdE F cf W z)) (s3 : Shape e3) : PT X (.Compare e [cop o, cop p] [e2, e3] pos) (RdT F cf W (.chn o p x y z)) := by
  refine PT_imp (pt_chain (cmp_vals C.units C.hK o) (cmp_vals C.units C.hK p) h h2 h3 (s3.mark _)) fun σ H Q ⟨G0, H0, ρ, S, G, β, fr, post⟩ => ?_
  unfold eT at post
  rw [eE_chn, Res.assoc] at post
  refine chn_read fr (Qb := Q) ((Post.bind post).imp fun b S' G' H' x' g' k => ?_) fun b H' q => ⟨b, rfl, q⟩
  exact k G' H' Ext.refl g'
/-! ### choices -/
theorem k_ite (h : PT X e (RdT F cf W x)) (h2 : PE X e2 (RdE F cf W y)) (h3 : PE X e3 (RdE F cf W z)) : PE X (.IfExp e e2 e3 pos) (RdE F cf W (.ite x y z)) := by
  refine PE_imp (pe_ifExp h h2 h3) fun σ H Q ⟨G0, H0, ρ, S, G, β, fr, post⟩ => ?_
  change Post F W σ G H ((eE cf F.B x ρ S).bind fun v S1 => (Res.of (truth F.B v) S1).bind fun k S2 => if k = true then eE cf F.B y ρ S2 else eE cf F.B z ρ S2) _ at post
  rw [← Res.assoc] at post
  refine RdT.mk fr (Post.bind post) fun b S1 G1 H1 x1 fr1 k => ?_
  cases b with
  | true =>
    rw [if_pos rfl] at k ⊢
    exact ⟨G0, H0, ρ, S1, G1, β, fr1, k⟩
  | false =>
    rw [if_neg (by decide)] at k ⊢
    exact ⟨G0, H0, ρ, S1, G1, β, fr1, k⟩
theorem t_ite (h : PT X e (RdT F cf W x)) (h2 : PT X e2 (RdT F cf W y)) (h3 : PT X e3 (RdT F cf W z)) : PT X (.IfExp e e2 e3 pos) (RdT F cf W (.ite x y z)) := by
  refine PT_imp (pt_ite h h2 h3) fun σ H Q ⟨G0, H0, ρ, S, G, β, fr, post⟩ => ?_
  change Post F W σ G H (((eE cf F.B x ρ S).bind fun v S1 => (Res.of (truth F.B v) S1).bind fun k S2 => if k = true then eE cf F.B y ρ S2 else eE cf F.B z ρ S2).bind fun v S1 => Res.of (truth F.B v) S1) _ at post
  rw [← Res.assoc, Res.assoc] at post
  refine RdT.mk fr (Post.bind post) fun b S1 G1 H1 x1 fr1 k => ?_
  cases b with
  | true =>
    rw [if_pos rfl] at k
    exact (if_pos rfl).mpr ⟨G0, H0, ρ, S1, G1, β, fr1, k⟩
  | false =>
    rw [if_neg (by decide)] at k
    exact (if_neg (by decide)).mpr ⟨G0, H0, ρ, S1, G1, β, fr1, k⟩
theorem t_not (h : PT X e (RdT F cf W x)) : PT X (.UnaryOp .Not e pos) (RdT F cf W (.not x)) := by
  refine PT_imp (L2.pt_not h) fun σ H Q ⟨G0, H0, ρ, S, G, β, fr, post⟩ => ?_
  have e1 : eT cf F.B (.not x) ρ S = (eT cf F.B x ρ S).bind fun b S1 => .ok (!b) S1 := by
    show ((eE cf F.B x ρ S).bind fun v S1 => Res.of ((truth F.B v).map fun b => EV.dat (.bool (!b))) S1).bind _ = ((eE cf F.B x ρ S).bind _).bind _
    simp only [Res.assoc, Res.of_map]
    rfl
  rw [e1] at post
  exact RdT.mk fr (Post.bind post) fun b S1 G1 H1 x1 fr1 k => k G1 H1 Ext.refl fr1.good
theorem t_val (hK : X.K = F.K) (h : PE X e (RdE F cf W x)) (hi : ∀ whole, isTrue e X.env whole = (do let v ← whole; standAt e.pos; holding [v] (truthy v))) : PT X e (RdT F cf W x) := by
  refine PT_imp (pt_truth h hi) fun σ H Q ⟨G0, H0, ρ, S, G, β, fr, post⟩ => ?_
  refine RdE.mk fr (Post.bind post) fun v S1 G1 H1 u x1 fr1 vr p1 => ?_
  obtain ⟨b, h1, p2⟩ := Post.of p1 fr1.good
  exact ⟨b, tru_vals hK fr1.good h1 vr, p2⟩
/-! ### and, or -/
theorem k_ands1 (h : PE X e (RdE F cf W x)) : PE X (.BoolOp .And [e] pos) (RdE F cf W (.ands [x])) := PE_imp (pe_one h) fun σ H Q q => q
theorem k_ors1 (h : PE X e (RdE F cf W x)) : PE X (.BoolOp .Or [e] pos) (RdE F cf W (.ors [x])) := PE_imp (pe_one h) fun σ H Q q => q
theorem k_ands (hK : X.K = F.K) (h : PE X e (RdE F cf W x)) (h2 : PE X (.BoolOp .And (e2 :: es) pos) (RdE F cf W (.ands (y :: xs)))) : PE X (.BoolOp .And (e :: e2 :: es) pos) (RdE F cf W (.ands (x :: y :: xs))) := by
  refine PE_imp (pe_andT h h2) fun σ H Q ⟨G0, H0, ρ, S, G, β, fr, post⟩ => ?_
  change Post F W σ G H ((eE cf F.B x ρ S).bind fun v S1 => (Res.of (truth F.B v) S1).bind fun k S2 => if k = true then eE cf F.B (.ands (y :: xs)) ρ S2 else .ok v S2) _ at post
  refine RdE.mk fr (Post.bind post) fun v S1 G1 H1 u x1 fr1 vr p1 => ?_
  obtain ⟨b, h1, p2⟩ := Post.of (Post.bind p1) fr1.good
  refine ⟨b, tru_vals hK fr1.good h1 vr, ?_⟩
  cases b with
  | true =>
    rw [if_pos rfl] at p2 ⊢
    exact ⟨G0, H0, ρ, S1, G1, β, fr1, p2⟩
  | false =>
    rw [if_neg (by decide)] at p2 ⊢
    exact p2 G1 H1 Ext.refl fr1.good u vr
theorem k_ors (hK : X.K = F.K) (h : PE X e (RdE F cf W x)) (h2 : PE X (.BoolOp .Or (e2 :: es) pos) (RdE F cf W (.ors (y :: xs)))) : PE X (.BoolOp .Or (e :: e2 :: es) pos) (RdE F cf W (.ors (x :: y :: xs))) := by
  refine PE_imp (pe_orT h h2) fun σ H Q ⟨G0, H0, ρ, S, G, β, fr, post⟩ => ?_
  change Post F W σ G H ((eE cf F.B x ρ S).bind fun v S1 => (Res.of (truth F.B v) S1).bind fun k S2 => if k = true then .ok v S2 else eE cf F.B (.ors (y :: xs)) ρ S2) _ at post
  refine RdE.mk fr (Post.bind post) fun v S1 G1 H1 u x1 fr1 vr p1 => ?_
  obtain ⟨b, h1, p2⟩ := Post.of (Post.bind p1) fr1.good
  refine ⟨b, tru_vals hK fr1.good h1 vr, ?_⟩
  cases b with
  | true =>
    rw [if_pos rfl] at p2 ⊢
    exact p2 G1 H1 Ext.refl fr1.good u vr
  | false =>
    rw [if_neg (by decide)] at p2 ⊢
    exact ⟨G0, H0, ρ, S1, G1, β, fr1, p2⟩
def RdW (F : Fx) (cf : CallF) (W : WX) (x : Ex) : TT := RdT F cf W x
theorem w_ands1 (h : PT X e (RdT F cf W x)) : PW X (.BoolOp .And [e] pos) (RdT F cf W (.ands [x])) := PW_imp (pw_and1 h) fun σ H Q q => q
theorem w_ors1 (h : PT X e (RdT F cf W x)) : PW X (.BoolOp .Or [e] pos) (RdT F cf W (.ors [x])) := PW_imp (pw_or1 h) fun σ H Q q => q
theorem w_ands (h : PT X e (RdT F cf W x)) (h2 : PW X (.BoolOp .And (e2 :: es) pos) (RdT F cf W (.ands (y :: xs)))) : PW X (.BoolOp .And (e :: e2 :: es) pos) (RdT F cf W (.ands (x :: y :: xs))) := by
  refine PW_imp (pw_and h h2) fun σ H Q ⟨G0, H0, ρ, S, G, β, fr, post⟩ => ?_
  have e1 : eT cf F.B (.ands (x :: y :: xs)) ρ S = (eT cf F.B x ρ S).bind fun b S1 => if b = true then eT cf F.B (.ands (y :: xs)) ρ S1 else .ok false S1 := by
    show ((eE cf F.B x ρ S).bind fun v S1 => (Res.of (truth F.B v) S1).bind fun k S2 => if k = true then eE cf F.B (.ands (y :: xs)) ρ S2 else .ok v S2).bind (fun v S1 => Res.of (truth F.B v) S1) = ((eE cf F.B x ρ S).bind fun v S1 => Res.of (truth F.B v) S1).bind _
    rw [Res.assoc, Res.assoc]
    refine congrArg _ (funext fun v => funext fun S1 => ?_)
    cases hv : truth F.B v with
    | none => rfl
    | some b =>
      cases b with
      | true => rfl
      | false =>
        show Res.of (truth F.B v) S1 = Res.ok false S1
        rw [hv]
        rfl
  rw [e1] at post
  refine RdT.mk fr (Post.bind post) fun b S1 G1 H1 x1 fr1 k => ?_
  cases b with
  | true =>
    rw [if_pos rfl] at k ⊢
    exact ⟨G0, H0, ρ, S1, G1, β, fr1, k⟩
  | false =>
    rw [if_neg (by decide)] at k ⊢
    exact k G1 H1 Ext.refl fr1.good
theorem w_ors (h : PT X e (RdT F cf W x)) (h2 : PW X (.BoolOp .Or (e2 :: es) pos) (RdT F cf W (.ors (y :: xs)))) : PW X (.BoolOp .Or (e :: e2 :: es) pos) (RdT F cf W (.ors (x :: y :: xs))) := by
  refine PW_imp (pw_or h h2) fun σ H Q ⟨G0, H0, ρ, S, G, β, fr, post⟩ => ?_
  have e1 : eT cf F.B (.ors (x :: y :: xs)) ρ S = (eT cf F.B x ρ S).bind fun b S1 => if b = true then .ok true S1 else eT cf F.B (.ors (y :: xs)) ρ S1 := by
    show ((eE cf F.B x ρ S).bind fun v S1 => (Res.of (truth F.B v) S1).bind fun k S2 => if k = true then .ok v S2 else eE cf F.B (.ors (y :: xs)) ρ S2).bind (fun v S1 => Res.of (truth F.B v) S1) = ((eE cf F.B x ρ S).bind fun v S1 => Res.of (truth F.B v) S1).bind _
    rw [Res.assoc, Res.assoc]
    refine congrArg _ (funext fun v => funext fun S1 => ?_)
    cases hv : truth F.B v with
    | none => rfl
    | some b =>
      cases b with
      | false => rfl
      | true =>
        show Res.of (truth F.B v) S1 = Res.ok true S1
        rw [hv]
        rfl
  rw [e1] at post
  refine RdT.mk fr (Post.bind post) fun b S1 G1 H1 x1 fr1 k => ?_
  cases b with
  | true =>
    rw [if_pos rfl] at k ⊢
    exact k G1 H1 Ext.refl fr1.good
  | false =>
    rw [if_neg (by decide)] at k ⊢
    exact ⟨G0, H0, ρ, S1, G1, β, fr1, k⟩
/-! ### parts -/
theorem k_sub (hK : X.K = F.K) (h : PE X e (RdE F cf W x)) (h2 : PE X e2 (RdE F cf W y)) (s2 : Shape e2) : PE X (.Subscript e e2 pos) (RdE F cf W (.sub x y)) := by
  refine PE_imp (pe_ix (ix_vals hK) h h2 s2.ix) fun σ H Q ⟨G0, H0, ρ, S, G, β, fr, post⟩ => ?_
  change Post F W σ G H ((eE cf F.B x ρ S).bind fun v S1 => (eE cf F.B y ρ S1).bind fun w S2 => Res.of (subE F.B S2 v w) S2) _ at post
  exact RdE.mk fr (Post.bind post) fun v S1 G1 H1 u x1 fr1 vr p1 => RdE.mk fr1 (Post.bind p1) fun w S2 G2 H2 u2 x2 fr2 vr2 p2 => ⟨G2, S2, v, w, fr2.good, vr.ext x2, vr2, Post.fin p2⟩
theorem k_slc (hK : X.K = F.K) {p2 : Pos} (h : PE X e (RdE F cf W x)) : PE X (.Subscript e (.Slice none none none p2) pos) (RdE F cf W (.slc x)) := by
  refine PE_imp (pe_slice (sl_vals hK) h po_none po_none) fun σ H Q ⟨G0, H0, ρ, S, G, β, fr, post⟩ => ?_
  change Post F W σ G H ((eE cf F.B x ρ S).bind fun v S1 => Res.of (slcE F.B v none none) S1) _ at post
  exact RdE.mk fr (Post.bind post) fun v S1 G1 H1 u x1 fr1 vr p1 => ⟨G1, S1, v, fr1.good, vr, Post.fin p1⟩
theorem k_slcL (hK : X.K = F.K) {p2 : Pos} (h : PE X e (RdE F cf W x)) (h2 : PE X e2 (RdE F cf W y)) : PE X (.Subscript e (.Slice (some e2) none none p2) pos) (RdE F cf W (.slcL x y)) := by
  refine PE_imp (pe_slice (sl_vals hK) h (po_some h2) po_none) fun σ H Q ⟨G0, H0, ρ, S, G, β, fr, post⟩ => ?_
  change Post F W σ G H ((eE cf F.B x ρ S).bind fun v S1 => (eE cf F.B y ρ S1).bind fun l S2 => Res.of ((intOf l).bind fun i => slcE F.B v (some i) none) S2) _ at post
  refine RdE.mk fr (Post.bind post) fun v S1 G1 H1 u x1 fr1 vr p1 => RdE.mk fr1 (Post.bind p1) fun w S2 G2 H2 u2 x2 fr2 vr2 p2 => ?_
  cases hi : intOf w with
  | none => rw [hi] at p2; exact p2.elim
  | some i =>
    rw [hi] at p2
    exact ⟨i, int_of hi vr2, G2, S2, v, fr2.good, vr.ext x2, Post.fin p2⟩
theorem k_slcH (hK : X.K = F.K) {p2 : Pos} (h : PE X e (RdE F cf W x)) (h2 : PE X e2 (RdE F cf W y)) : PE X (.Subscript e (.Slice none (some e2) none p2) pos) (RdE F cf W (.slcH x y)) := by
  refine PE_imp (pe_slice (sl_vals hK) h po_none (po_some h2)) fun σ H Q ⟨G0, H0, ρ, S, G, β, fr, post⟩ => ?_
  change Post F W σ G H ((eE cf F.B x ρ S).bind fun v S1 => (eE cf F.B y ρ S1).bind fun l S2 => Res.of ((intOf l).bind fun i => slcE F.B v none (some i)) S2) _ at post
  refine RdE.mk fr (Post.bind post) fun v S1 G1 H1 u x1 fr1 vr p1 => RdE.mk fr1 (Post.bind p1) fun w S2 G2 H2 u2 x2 fr2 vr2 p2 => ?_
  cases hi : intOf w with
  | none => rw [hi] at p2; exact p2.elim
  | some i =>
    rw [hi] at p2
    exact ⟨i, int_of hi vr2, G2, S2, v, fr2.good, vr.ext x2, Post.fin p2⟩
theorem k_slcB (hK : X.K = F.K) {p2 : Pos} (h : PE X e (RdE F cf W x)) (h2 : PE X e2 (RdE F cf W y)) (h3 : PE X e3 (RdE F cf W z)) : PE X (.Subscript e (.Slice (some e2) (some e3) none p2) pos) (RdE F cf W (.slcB x y z)) := by
  refine PE_imp (pe_slice (sl_vals hK) h (po_some h2) (po_some h3)) fun σ H Q ⟨G0, H0, ρ, S, G, β, fr, post⟩ => ?_
  change Post F W σ G H ((eE cf F.B x ρ S).bind fun v S1 => (eE cf F.B y ρ S1).bind fun l S2 => (Res.of (intOf l) S2).bind fun i S3 => (eE cf F.B z ρ S3).bind fun h S4 => Res.of ((intOf h).bind fun j => slcE F.B v (some i) (some j)) S4) _ at post
  refine RdE.mk fr (Post.bind post) fun v S1 G1 H1 u x1 fr1 vr p1 => RdE.mk fr1 (Post.bind p1) fun w S2 G2 H2 u2 x2 fr2 vr2 p2 => ?_
  obtain ⟨i, hi, p2⟩ := Post.of (Post.bind p2) fr2.good
  refine ⟨i, int_of hi vr2, RdE.mk fr2 (Post.bind p2) fun t S3 G3 H3 u3 x3 fr3 vr3 p3 => ?_⟩
  cases hj : intOf t with
  | none => rw [hj] at p3; exact p3.elim
  | some j =>
    rw [hj] at p3
    exact ⟨j, int_of hj vr3, G3, S3, v, fr3.good, (vr.ext x2).ext x3, Post.fin p3⟩
theorem k_rev (hK : X.K = F.K) {k : Nat} {p1 p2 p3 : Pos} (h : PE X e (RdE F cf W x)) : PE X (.Subscript e (.Slice none none (some (.UnaryOp .USub (.Constant (.int 1) k p1) p2)) p3) pos) (RdE F cf W (.rev x)) := by
  refine PE_imp (pe_rev hK h) fun σ H Q ⟨G0, H0, ρ, S, G, β, fr, post⟩ => ?_
  change Post F W σ G H ((eE cf F.B x ρ S).bind fun v S1 => Res.of (revE F.B v) S1) _ at post
  exact RdE.mk fr (Post.bind post) fun v S1 G1 H1 u x1 fr1 vr p1 => ⟨G1, S1, v, fr1.good, vr, Post.fin p1⟩
end
end Cw

namespace Cw
open PySem PySem.Spec PyProof.Rows L2
theorem bname_mem (f : Blt) : bname f ∈ bltNames := by cases f <;> decide +kernel
theorem bname_ok (f : Blt) : bname f ≠ "__name__" ∧ (bname f == ("__debug__" : Str)) = false := by cases f <;> exact ⟨by decide +kernel, by decide +kernel⟩
theorem boot_blt (f : Blt) : bootBuiltins (bname f) = some (bltV f) := by cases f <;> decide +kernel
theorem isi_mem : ("isinstance" : Str) ∈ bltNames := by decide +kernel
theorem boot_isi : bootBuiltins ("isinstance" : Str) = some (.builtin "isinstance") := by decide +kernel
section
variable {Γ : Gl0} {n : Nat} {F : Fx} {W : WX} {cf : CallF} {N : List Str} {raw sc : Scope} {X : Cx} {e e2 e3 : Expr} {es : List Expr} {x y z : Ex} {xs : List Ex} {pos p : Pos}
theorem k_blt (C : Ctx Γ n F W N raw sc X) {f : Blt} {u : Str} (hu : isG sc u = true) (hn : u = bname f) (h : PA X (e :: es) (RdA F cf W xs)) (se : Shape e) (hpl : ∀ pos, (backTo pos (starEach es X.env)).any (·.1) = false) : PE X (.Call (.Name u p) (e :: es) [] pos) (RdE F cf W (.blt f xs)) := by
  subst hn
  obtain ⟨g1, g2, g3⟩ := C.glob hu
  have key : PE X (.Call (.Name (bname f) p) (e :: es) [] pos) (tCB (rB F fun S => bltE F.B S f) (RdA F cf W xs)) := by
    have hb := boot_blt f
    have hv := blt_vals (F := F) (X := X) C.calm C.hK f
    have hm := C.blt _ (bname_mem f)
    cases f <;> first
      | exact pe_callB hv g1 hm hb h g3 g2 (se.star es X.env) (hpl _)
      | exact pe_callTy hv g1 hm hb h g3 g2 (se.star es X.env) (hpl _)
  refine PE_imp key fun σ H Q ⟨G0, H0, ρ, S, G, β, fr, post⟩ => ?_
  change Post F W σ G H ((eEs cf F.B xs ρ S).bind fun vs S1 => Res.of (bltE F.B S1 f vs) S1) _ at post
  exact RdA.mk fr (Post.bind post) fun vs S1 G1 H1 us x1 fr1 vr p1 => ⟨G1, S1, vs, fr1.good, vr, Post.fin p1⟩
theorem tys_cls : ∀ (ts : List Ty), Paired ClsV (ts.map fun t => V.ty (tstr t)) (ts.map fun t => Value.type (tstr t))
  | [] => .nil
  | t :: ts => .cons (.ty _) (tys_cls ts)
theorem k_isi1 (C : Ctx Γ n F W N raw sc X) {t : Ty} (hu : isG sc "isinstance" = true) (h : PE X e (RdE F cf W x)) (se : Shape e) (ht : mTy sc t e2 = true) : PE X (.Call (.Name "isinstance" p) [e, e2] [] pos) (RdE F cf W (.isi x [t] true)) := by
  obtain ⟨g1, g2, g3⟩ := C.glob hu
  obtain ⟨h2, s2⟩ := pe_ty C ht
  have st2 : starEach [e2] X.env = [(false, eval e2 X.env)] := s2.star [] X.env
  refine PE_imp (pe_callB call_isi g1 (C.blt _ isi_mem) boot_isi (pa_cons h (pa_cons h2 pa_nil st2) (se.star _ X.env)) g3 g2 (se.star _ X.env) (by rw [st2]; rfl)) fun σ H Q ⟨G0, H0, ρ, S, G, β, fr, post⟩ => ?_
  change Post F W σ G H ((eE cf F.B x ρ S).bind fun v S1 => Res.of ((tyAny v [t]).map fun b => EV.dat (.bool b)) S1) _ at post
  refine RdE.mk fr (Post.bind post) fun v S1 G1 H1 u x1 fr1 vr p1 => ?_
  obtain ⟨b, h3, q⟩ := bl_of fr1.good p1
  obtain ⟨b1, h4, h5⟩ := Option.bind_eq_some_iff.mp h3
  cases h5
  refine ⟨u, _, _, _, b1, rfl, .ty _, by rw [C.hK]; exact ty_of fr1.good h4 vr, kind_ty h4, ?_⟩
  have q' : Q (.bl (b1 || false)) H1 := q
  rw [Bool.or_false] at q'
  exact q'
theorem k_isi (C : Ctx Γ n F W N raw sc X) {t : Ty} {ts : List Ty} {k : Nat} {p2 : Pos} (hu : isG sc "isinstance" = true) (h : PE X e (RdE F cf W x)) (se : Shape e) (ht : mTys sc (t :: ts) es = true) (hl : ts.length < 3) : PE X (.Call (.Name "isinstance" p) [e, .Tuple es k p2] [] pos) (RdE F cf W (.isi x (t :: ts) false)) := by
  obtain ⟨g1, g2, g3⟩ := C.glob hu
  have h2 := pa_tys C ht
  have st2 : starEach [Expr.Tuple es k p2] X.env = [(false, eval (Expr.Tuple es k p2) X.env)] := rfl
  refine PE_imp (pe_callB call_isiT g1 (C.blt _ isi_mem) boot_isi (pa_cons h (pa_cons (pe_tup h2) pa_nil st2) (se.star _ X.env)) g3 g2 (se.star _ X.env) (by rw [st2]; rfl)) fun σ H Q ⟨G0, H0, ρ, S, G, β, fr, post⟩ => ?_
  change Post F W σ G H ((eE cf F.B x ρ S).bind fun v S1 => Res.of ((tyAny v (t :: ts)).map fun b => EV.dat (.bool b)) S1) _ at post
  refine RdE.mk fr (Post.bind post) fun v S1 G1 H1 u x1 fr1 vr p1 => ?_
  refine ⟨by rw [List.length_map, List.length_cons, sizeLine_eq]; omega, fun q hq => ?_⟩
  have x2 : Ext F.sa G1 H1 G1 (upd H1 q (.tup ((t :: ts).map fun t => .ty (tstr t)))) := Ext.tmp hq
  have g2 := fr1.good.tmp (o := .tup ((t :: ts).map fun t => .ty (tstr t))) hq
  obtain ⟨b, h3, hQ⟩ := bl_of g2 (Post.ext p1 x2)
  exact ⟨u, q, _, _, _, b, rfl, upd_same, tys_cls _, by rw [C.hK]; exact ty_of_any g2 h3 (vr.ext x2), kind_any h3, hQ⟩
theorem strs_rp {K : PySem.W.Frag} {G : Hp} : ∀ {ds : List PyData} {vs : List V} {ts : List Tx}, RpAll K G vs ds → strsOf ds = some ts → vs = ts.map V.str
  | [], _, _, .nil, h => by cases h; rfl
  | d :: ds, v :: vs, ts, h0, h => by
    obtain ⟨r, rs⟩ : Rp K G v d ∧ RpAll K G vs ds := by
      cases h0 with
      | cons r rs => exact ⟨r, rs⟩
    cases d with
    | str t =>
      obtain ⟨ts', h1, h2⟩ := Option.map_eq_some_iff.mp h
      subst h2
      rw [strs_rp rs h1, r.str_inv]
      rfl
    | _ => cases h
theorem lenAll_sum : ∀ ts : List Tx, lenAll ts = (ts.map (·.length)).sum
  | [] => rfl
  | t :: ts => by rw [List.map_cons, List.sum_cons, ← lenAll_sum ts]; rfl
theorem k_join (C : Ctx Γ n F W N raw sc X) {s : Tx} {k : Nat} {p2 apos : Pos} (hl : (apos.endLine == pos.line) = true) (h : PE X e (RdE F cf W y)) (se : Shape e) : PE X (.Call (.Attribute (.Constant (.str s) k p2) "join" apos) [e] [] pos) (RdE F cf W (.mth .join (.c (.str s)) [y])) := by
  refine PE_imp (pe_join pe_str h (se.star [] X.env) rfl hl) fun σ H Q ⟨G0, H0, ρ, S, G, β, fr, post⟩ => ?_
  change Post F W σ G H ((eEs cf F.B [y] ρ S).bind fun vs S2 => Res.of (mthE F.B .join (.dat (.str s)) vs) S2) _ at post
  change Post F W σ G H (((eE cf F.B y ρ S).bind fun v S1 => Res.ok [v] S1).bind fun vs S2 => Res.of (mthE F.B .join (.dat (.str s)) vs) S2) _ at post
  rw [Res.assoc] at post
  refine ⟨⟨s, rfl⟩, RdE.mk fr (Post.bind post) fun v S1 G1 H1 u x1 fr1 vr p1 => ?_⟩
  change Post F W σ G1 H1 (Res.of ((seqOf F.B v).bind fun zs => (strsOf zs).bind fun ts => if lenOk (lenAll ts + s.length * ts.length) then some (EV.dat (.str (PySem.Str.join s ts))) else none) S1) _ at p1
  obtain ⟨a, h1, p2⟩ := Post.of p1 fr1.good
  obtain ⟨zs, h2, h3⟩ := Option.bind_eq_some_iff.mp h1
  obtain ⟨ts, h4, h5⟩ := Option.bind_eq_some_iff.mp h3
  split at h5
  · rename_i hok
    cases h5
    obtain ⟨a, vs, e1, h6, h7⟩ := seq_at fr1.good h2 vr
    have e2 := strs_rp h7 h4
    subst e2 e1
    refine ⟨s, a, ts, rfl, rfl, ?_, ?_, ?_⟩
    · rw [C.hK]
      rcases h6 with h6 | h6
      · exact .inl (SqL.of h6)
      · exact .inr h6
    · have l := lenOk_le hok
      rw [sizeLine_eq, lenAll_sum, Nat.mul_comm] at l
      omega
    · rw [TL.join_eq]
      exact p2 _ (.str _)
  · cases h5
theorem k_mtd : PE X (.Dict [] [] pos) (RdE F cf W .mtd) := by
  refine PE_imp pe_dnewK fun σ H Q ⟨G0, H0, ρ, S, G, β, fr, post⟩ => ?_
  exact fun p hp => post _ _ (Ext.obj fr.good.sub hp) (fr.good.obj hp) _ (.dic0 upd_same)
theorem k_call (C : Ctx Γ n F W N raw sc X) {f : Nat} {u : Str} (hu : isG sc u = true) (hf : Γ.Δ[f]?.map Fd.name = some u) (h : PA X (e :: es) (RdA F (run Γ.Δ n) W xs)) (se : Shape e) (hpl : ∀ pos, (backTo pos (starEach es X.env)).any (·.1) = false) : PE X (.Call (.Name u p) (e :: es) [] pos) (RdE F (run Γ.Δ n) W (.call f xs)) := by
  obtain ⟨g1, g2, g3⟩ := C.glob hu
  obtain ⟨d, hd, hn⟩ := Option.map_eq_some_iff.mp hf
  subst hn
  obtain ⟨fa, fdt, ps, h1, h2, h3, h4⟩ := C.fn f d hd
  refine PE_imp (pe_callG h4 C.room C.gua g1 h1 h2 h3 C.pass h g2 (se.star es X.env) (hpl _)) fun σ H Q ⟨G0, H0, ρ, S, G, β, fr, post⟩ => ?_
  change Post F W σ G H ((eEs (run Γ.Δ n) F.B xs ρ S).bind fun vs S1 => (Res.of (passA F.B 0 vs) S1).bind fun p S2 => (run Γ.Δ n f p.1 p.2 S2).bind fun d S3 => .ok (EV.dat d) S3) _ at post
  refine RdA.mk fr (Post.bind post) fun vs S1 G1 H1 us x1 fr1 vr p1 => ?_
  obtain ⟨q, h5, p2⟩ := Post.of (Post.bind p1) fr1.good
  obtain ⟨al, a1, a2, a3⟩ := passA_ok (pre := []) fr1.good vr h5 rfl
  obtain ⟨b1, b2⟩ := a3 ⟨F.K, F.sa, F.ca, al, q.2⟩ rfl rfl rfl
  have g : Good ⟨F.K, F.sa, F.ca, al, q.2⟩ G1 H1 S1 := ⟨fr1.good.sub, fr1.good.stn, fr1.good.st, a1, a2⟩
  have back : ∀ {G' H' : Hp} {S' : Sta}, Ext F.sa G1 H1 G' H' → Good ⟨F.K, F.sa, F.ca, al, q.2⟩ G' H' S' → Good F G' H' S' := fun x g' => fr1.good.ext x g'.sub g'.stn g'.st
  refine ⟨⟨F.K, F.sa, F.ca, al, q.2⟩, G1, S1, q.1, rfl, rfl, g, b1, b2, ?_⟩
  show match run Γ.Δ n f q.1 q.2 S1 with
    | .ok d S' => ∀ v G' H', Ext F.sa G1 H1 G' H' → Good ⟨F.K, F.sa, F.ca, al, q.2⟩ G' H' S' → Rp F.K G' v d → Q v H'
    | .exc c S' => ∀ G' H', Ext F.sa G1 H1 G' H' → Good ⟨F.K, F.sa, F.ca, al, q.2⟩ G' H' S' → WE W σ (.ref (F.ca c)) none H'
    | .bad => False
  generalize hr : run Γ.Δ n f q.1 q.2 S1 = r at p2
  cases r with
  | bad => exact p2.elim
  | exc c S' => exact fun G' H' x g' => p2 G' H' x (back x g')
  | ok d S' => exact fun v G' H' x g' r => p2 G' H' x (back x g') v r
end
end Cw

namespace Cw
open PySem PySem.Spec PyProof.Rows L2
/-- what stands for an expression -/
structure SndE (Γ : Gl0) (n : Nat) (F : Fx) (W : WX) (X : Cx) (e : Expr) (x : Ex) : Prop where
  pe : PE X e (RdE F (run Γ.Δ n) W x)
  pt : PT X e (RdT F (run Γ.Δ n) W x)
section
variable {Γ : Gl0} {n : Nat} {F : Fx} {N : List Str}
theorem SndE.val {W : WX} {X : Cx} {e : Expr} {x : Ex} (hK : X.K = F.K) (h : PE X e (RdE F (run Γ.Δ n) W x)) (hi : ∀ whole, isTrue e X.env whole = (do let v ← whole; standAt e.pos; holding [v] (truthy v))) : SndE Γ n F W X e x := ⟨h, t_val hK h hi⟩
theorem mS_fold {s : Src} {sc : Scope} {e : Expr} (h : mS Γ N s sc e = true) (env : PySem.Env) (v : Value) : foldedSetIterable e env v = pure v := by
  cases s with
  | val a => exact (mE_shape (x := a) h).fold env v
  | rng1 a =>
    unfold mS at h
    split at h
    · rfl
    · cases h
  | rng2 a b =>
    unfold mS at h
    split at h
    · rfl
    · cases h
  | _ => cases h
theorem all_mem {a b : List Nat} (h : a.all b.contains = true) : ∀ i ∈ a, i ∈ b := fun i hi => by
  have := List.all_eq_true.mp h i hi
  simpa using this
mutual
theorem sndE : ∀ (x : Ex) {W : WX} {raw sc : Scope} {X : Cx} {e : Expr}, Ctx Γ n F W N raw sc X → mE Γ N x sc e = true → SndE Γ n F W X e x
  | .c d, W, raw, sc, X, e, C, h => by
    refine .val C.hK (k_c h) fun whole => ?_
    cases d <;> cases e <;> first | (exfalso; revert h; simp [mE]; done) | rfl
  | .g k, W, raw, sc, X, e, C, h => by
    cases e with
    | Name u p =>
      simp only [mE, Bool.and_eq_true] at h
      obtain ⟨⟨h1, h2⟩, h3⟩ := h
      exact .val C.hK (k_g C h1 (by simpa using h2) (by simpa using h3)) fun _ => rfl
    | _ => cases h
  | .v i, W, raw, sc, X, e, C, h => by
    cases e with
    | Name u p => exact .val C.hK (k_v C h) fun _ => rfl
    | _ => cases h
  | .tup es, W, raw, sc, X, e, C, h => by
    cases e with
    | Tuple xs k p => exact .val C.hK (k_tup (sndEs es C h)) fun _ => rfl
    | _ => cases h
  | .lst es, W, raw, sc, X, e, C, h => by
    cases e with
    | List xs p => exact .val C.hK (peF lsty_lst (k_lst (sndEs es C h))) fun _ => rfl
    | _ => cases h
  | .bin o a b, W, raw, sc, X, e, C, h => by
    cases e with
    | BinOp x op y p =>
      simp only [mE, Bool.and_eq_true, decide_eq_true_eq] at h
      obtain ⟨⟨h1, h2⟩, h3⟩ := h
      subst h1
      exact .val C.hK (k_bin C.hK (sndE a C h2).pe (sndE b C h3).pe) fun _ => rfl
    | _ => cases h
  | .neg a, W, raw, sc, X, e, C, h => by
    cases e with
    | UnaryOp op x p =>
      cases op with
      | USub => exact .val C.hK (k_neg (sndE a C h).pe) fun _ => rfl
      | _ => cases h
    | _ => cases h
  | .not a, W, raw, sc, X, e, C, h => by
    cases e with
    | UnaryOp op x p =>
      cases op with
      | Not => exact ⟨k_not C.hK (sndE a C h).pe, t_not (sndE a C h).pt⟩
      | _ => cases h
    | _ => cases h
  | .ands es, W, raw, sc, X, e, C, h => by
    cases e with
    | BoolOp op xs p =>
      cases op with
      | And =>
        have h' : notNil es = true ∧ mEs Γ N es sc xs = true := by
          have h1 : (notNil es && mEs Γ N es sc xs) = true := h
          simpa using h1
        obtain ⟨p1, p2⟩ := sndAnds es C h'.1 h'.2 p
        exact ⟨p1, p2.pt⟩
      | _ => cases h
    | _ => cases h
  | .ors es, W, raw, sc, X, e, C, h => by
    cases e with
    | BoolOp op xs p =>
      cases op with
      | Or =>
        have h' : notNil es = true ∧ mEs Γ N es sc xs = true := by
          have h1 : (notNil es && mEs Γ N es sc xs) = true := h
          simpa using h1
        obtain ⟨p1, p2⟩ := sndOrs es C h'.1 h'.2 p
        exact ⟨p1, p2.pt⟩
      | _ => cases h
    | _ => cases h
  | .cmp o a b, W, raw, sc, X, e, C, h => by
    cases e with
    | Compare x ops ys p =>
      match ops, ys, h with
      | [op], [y], h =>
        simp only [mE, Bool.and_eq_true, decide_eq_true_eq] at h
        obtain ⟨⟨h1, h2⟩, h3⟩ := h
        subst h1
        exact ⟨k_cmp C (sndE a C h2).pe (sndE b C h3).pe (mE_shape h3), t_cmp C (sndE a C h2).pe (sndE b C h3).pe (mE_shape h3)⟩
      | [], _, h => cases h
      | [_], [], h => cases h
      | [_], _ :: _ :: _, h => cases h
      | _ :: _ :: _, _, h => cases h
    | _ => cases h
  | .chn o q a b c, W, raw, sc, X, e, C, h => by
    cases e with
    | Compare x ops ys p =>
      match ops, ys, h with
      | [op, op'], [y, z], h =>
        simp only [mE, Bool.and_eq_true, decide_eq_true_eq] at h
        obtain ⟨⟨⟨⟨h1, h2⟩, h3⟩, h4⟩, h5⟩ := h
        subst h1 h2
        exact ⟨k_chn C (sndE a C h3).pe (sndE b C h4).pe (sndE c C h5).pe (mE_shape h5), t_chn C (sndE a C h3).pe (sndE b C h4).pe (sndE c C h5).pe (mE_shape h5)⟩
      | [], _, h => cases h
      | [_], _, h => cases h
      | [_, _], [], h => cases h
      | [_, _], [_], h => cases h
      | [_, _], _ :: _ :: _ :: _, h => cases h
      | _ :: _ :: _ :: _, _, h => cases h
    | _ => cases h
  | .ite c a b, W, raw, sc, X, e, C, h => by
    cases e with
    | IfExp t x y p =>
      simp only [mE, Bool.and_eq_true] at h
      obtain ⟨⟨h1, h2⟩, h3⟩ := h
      have s1 := sndE c C h1
      have s2 := sndE a C h2
      have s3 := sndE b C h3
      exact ⟨k_ite s1.pt s2.pe s3.pe, t_ite s1.pt s2.pt s3.pt⟩
    | _ => cases h
  | .sub a i, W, raw, sc, X, e, C, h => by
    cases e with
    | Subscript x y p =>
      simp only [mE, Bool.and_eq_true] at h
      exact .val C.hK (k_sub C.hK (sndE a C h.1).pe (sndE i C h.2).pe (mE_shape h.2)) fun _ => rfl
    | _ => cases h
  | .slc a, W, raw, sc, X, e, C, h => by
    cases e with
    | Subscript x y p =>
      cases y with
      | Slice l u s p2 =>
        cases l <;> cases u <;> cases s <;> first | (exfalso; revert h; simp [mE]; done) | skip
        have h' : mE Γ N a sc x = true := h
        exact .val C.hK (k_slc C.hK (sndE a C h').pe) fun _ => rfl
      | _ => cases h
    | _ => cases h
  | .slcL a lo, W, raw, sc, X, e, C, h => by
    cases e with
    | Subscript x y p =>
      cases y with
      | Slice l u s p2 =>
        cases l <;> cases u <;> cases s <;> first | (exfalso; revert h; simp [mE]; done) | skip
        simp only [mE, Bool.and_eq_true] at h
        exact .val C.hK (k_slcL C.hK (sndE a C h.1).pe (sndE lo C h.2).pe) fun _ => rfl
      | _ => cases h
    | _ => cases h
  | .slcH a hi, W, raw, sc, X, e, C, h => by
    cases e with
    | Subscript x y p =>
      cases y with
      | Slice l u s p2 =>
        cases l <;> cases u <;> cases s <;> first | (exfalso; revert h; simp [mE]; done) | skip
        simp only [mE, Bool.and_eq_true] at h
        exact .val C.hK (k_slcH C.hK (sndE a C h.1).pe (sndE hi C h.2).pe) fun _ => rfl
      | _ => cases h
    | _ => cases h
  | .slcB a lo hi, W, raw, sc, X, e, C, h => by
    cases e with
    | Subscript x y p =>
      cases y with
      | Slice l u s p2 =>
        cases l <;> cases u <;> cases s <;> first | (exfalso; revert h; simp [mE]; done) | skip
        simp only [mE, Bool.and_eq_true] at h
        exact .val C.hK (k_slcB C.hK (sndE a C h.1.1).pe (sndE lo C h.1.2).pe (sndE hi C h.2).pe) fun _ => rfl
      | _ => cases h
    | _ => cases h
  | .rev a, W, raw, sc, X, e, C, h => by
    unfold mE at h
    split at h
    · simp only [Bool.and_eq_true, decide_eq_true_eq] at h
      obtain ⟨h1, h2⟩ := h
      subst h1
      exact .val C.hK (k_rev C.hK (sndE a C h2).pe) fun _ => rfl
    · cases h
  | .call f es, W, raw, sc, X, e, C, h => by
    unfold mE at h
    split at h
    · rename_i u p xs p2
      simp only [Bool.and_eq_true, decide_eq_true_eq] at h
      obtain ⟨⟨⟨h1, h2⟩, h3⟩, h4⟩ := h
      match es, xs, h3, h4 with
      | a :: as, y :: ys, _, h4 =>
        have h' : mE Γ N a sc y = true ∧ mEs Γ N as sc ys = true := by simpa [mEs] using h4
        exact .val C.hK (k_call C h1 h2 (sndEs (a :: as) C h4) (mE_shape h'.1) fun pos => mEs_plain h'.2 _ pos) fun _ => rfl
      | _ :: _, [], _, h4 => cases h4
      | [], _, h3, _ => cases h3
    · cases h
  | .blt f es, W, raw, sc, X, e, C, h => by
    unfold mE at h
    split at h
    · rename_i u p xs p2
      simp only [Bool.and_eq_true] at h
      obtain ⟨⟨⟨h1, h2⟩, h3⟩, h4⟩ := h
      match es, xs, h3, h4 with
      | a :: as, y :: ys, _, h4 =>
        have h' : mE Γ N a sc y = true ∧ mEs Γ N as sc ys = true := by simpa [mEs] using h4
        exact .val C.hK (k_blt C h1 (by simpa using h2) (sndEs (a :: as) C h4) (mE_shape h'.1) fun pos => mEs_plain h'.2 _ pos) fun _ => rfl
      | _ :: _, [], _, h4 => cases h4
      | [], _, h3, _ => cases h3
    · cases h
  | .isi a ts one, W, raw, sc, X, e, C, h => by
    unfold mE at h
    split at h
    · rename_i u p y t p2
      simp only [Bool.and_eq_true] at h
      obtain ⟨⟨⟨h1, h2⟩, h3⟩, h4⟩ := h
      have e1 : u = "isinstance" := by simpa using h2
      subst e1
      have sa := sndE a C h3
      cases one with
      | true =>
        rw [if_pos rfl] at h4
        split at h4
        · exact .val C.hK (k_isi1 C h1 sa.pe (mE_shape h3) h4) fun _ => rfl
        · cases h4
      | false =>
        rw [if_neg (by decide)] at h4
        split at h4
        · simp only [Bool.and_eq_true, decide_eq_true_eq] at h4
          obtain ⟨⟨h5, h6⟩, h7⟩ := h4
          cases ts with
          | nil => cases h6
          | cons t' ts => exact .val C.hK (k_isi C h1 sa.pe (mE_shape h3) h5 (by simp only [List.length_cons] at h7; omega)) fun _ => rfl
        · cases h4
    · cases h
  | .mth .join a es, W, raw, sc, X, e, C, h => by
    unfold mE at h
    split at h
    · rename_i u k p m apos y pos
      simp only [Bool.and_eq_true, decide_eq_true_eq] at h
      obtain ⟨⟨⟨h1, h2⟩, h3⟩, h4⟩ := h
      subst h1
      have e1 : m = "join" := by simpa using h2
      subst e1
      match es, h4 with
      | [b], h4 =>
        have h' : mE Γ N b sc y = true := by simpa [mEs] using h4
        exact .val C.hK (k_join C (by rw [h3]; exact beq_self_eq_true _) (sndE b C h').pe (mE_shape h')) fun _ => rfl
      | [], h4 => cases h4
      | _ :: _ :: _, h4 => revert h4; simp [mEs]
    · cases h
  | .mtd, W, raw, sc, X, e, C, h => by
    unfold mE at h
    split at h
    · exact .val C.hK k_mtd fun _ => rfl
    · cases h
  | .lc own p s cs x, W, raw, sc, X, e, C, h => by
    unfold mE at h
    split at h
    · rename_i elt tg iter ifs scope pos
      simp only [Bool.and_eq_true, decide_eq_true_eq] at h
      obtain ⟨⟨⟨⟨⟨⟨⟨h1, h2⟩, h3⟩, h4⟩, h5⟩, h6⟩, h7⟩, h8⟩ := h
      refine .val C.hK (peF lsty_lc (PE_imp (pe_lc (pos := pos) C.calm (by rw [C.hN]; exact C.nd) (sndS s (tg := tg) false C h5) (blkOk_by (by rw [C.hN, C.hs]; exact h1)) (fun s' H' A cl fp => pg_pat (C.blk s' H' scope cl A fp) h4) (fun s' H' A cl fp => sndC cs (C.blk s' H' scope cl A fp) h7 h6) (fun s' H' A cl fp => (sndE x (C.blk s' H' scope cl A fp) h8).pe) (fun v => mS_fold h5 X.env v)) fun σ H Q q => ?_)) fun _ => rfl
      rw [h2]
      exact lc_read (all_mem h3) q
    · cases h
  | .lc2 own own1 p s cs p1 s1 cs1 x, W, raw, sc, X, e, C, h => by
    unfold mE at h
    split at h
    · rename_i elt tg iter ifs tg1 iter1 ifs1 scope pos
      simp only [Bool.and_eq_true, decide_eq_true_eq] at h
      obtain ⟨⟨⟨⟨⟨⟨⟨⟨⟨⟨⟨⟨⟨h1, h2⟩, h3⟩, h4⟩, h5⟩, h6⟩, h7⟩, h8⟩, h9⟩, h10⟩, h11⟩, h12⟩, h13⟩, h14⟩ := h
      refine .val C.hK (peF lsty_lc2 (PE_imp (pe_lc2 (pos := pos) (vs1 := own1) C.calm (by rw [C.hN]; exact C.nd) (sndS s (tg := tg) false C h7) (blkOk_by (by rw [C.hN, C.hs]; exact h1)) (by rw [h2]; exact all_mem h3) (fun s' H' A cl fp => pg_pat (C.blk s' H' scope cl A fp) h6) (fun s' H' A cl fp => sndC cs (C.blk s' H' scope cl A fp) h9 h8)
        (fun s' H' A cl fp => sndS s1 (tg := tg1) true (C.blk s' H' scope cl A fp) h11) (fun s' H' A cl fp => pg_pat (C.blk s' H' scope cl A fp) h10) (fun s' H' A cl fp => sndC cs1 (C.blk s' H' scope cl A fp) h13 h12) (fun s' H' A cl fp => (sndE x (C.blk s' H' scope cl A fp) h14).pe) (fun v => mS_fold h7 X.env v) (fun env v => mS_fold h11 env v)) fun σ H Q q => ?_)) fun _ => rfl
      rw [h2]
      exact lc2_read (all_mem h4) (all_mem h5) q
    · cases h
theorem sndEs : ∀ (xs : List Ex) {W : WX} {raw sc : Scope} {X : Cx} {es : List Expr}, Ctx Γ n F W N raw sc X → mEs Γ N xs sc es = true → PA X es (RdA F (run Γ.Δ n) W xs)
  | [], W, raw, sc, X, [], C, h => PA_imp pa_nil fun σ H Q ⟨G0, H0, ρ, S, G, β, fr, q⟩ => q G H Ext.refl fr.good [] .nil
  | [], W, raw, sc, X, _ :: _, C, h => by cases h
  | _ :: _, W, raw, sc, X, [], C, h => by cases h
  | x :: xs, W, raw, sc, X, e :: es, C, h => by
    have h' : mE Γ N x sc e = true ∧ mEs Γ N xs sc es = true := by simpa [mEs] using h
    refine PA_imp (pa_cons (sndE x C h'.1).pe (sndEs xs C h'.2) ((mE_shape h'.1).star es X.env)) fun σ H Q ⟨G0, H0, ρ, S, G, β, fr, post⟩ => ?_
    change Post F W σ G H ((eE (run Γ.Δ n) F.B x ρ S).bind fun v S1 => (eEs (run Γ.Δ n) F.B xs ρ S1).bind fun vs S2 => .ok (v :: vs) S2) _ at post
    exact RdE.mk fr (Post.bind post) fun v S1 G1 H1 u x1 fr1 vr p1 => RdA.mk fr1 (Post.bind p1) fun vs S2 G2 H2 us x2 fr2 vrs p2 => p2 G2 H2 Ext.refl fr2.good _ (.cons (vr.ext x2) vrs)
theorem sndAnds : ∀ (xs : List Ex) {W : WX} {raw sc : Scope} {X : Cx} {es : List Expr}, Ctx Γ n F W N raw sc X → notNil xs = true → mEs Γ N xs sc es = true → ∀ pos, PE X (.BoolOp .And es pos) (RdE F (run Γ.Δ n) W (.ands xs)) ∧ PW X (.BoolOp .And es pos) (RdT F (run Γ.Δ n) W (.ands xs))
  | [], W, raw, sc, X, _, C, h0, h, pos => by cases h0
  | _ :: _, W, raw, sc, X, [], C, h0, h, pos => by cases h
  | [x], W, raw, sc, X, e :: es, C, h0, h, pos => by
    have h' : mE Γ N x sc e = true ∧ mEs Γ N [] sc es = true := by simpa [mEs] using h
    have s := sndE x C h'.1
    cases es with
    | nil => exact ⟨k_ands1 s.pe, w_ands1 s.pt⟩
    | cons _ _ => cases h'.2
  | x :: y :: xs, W, raw, sc, X, [e], C, h0, h, pos => by
    have h' : mE Γ N x sc e = true ∧ mEs Γ N (y :: xs) sc [] = true := by simpa [mEs] using h
    cases h'.2
  | x :: y :: xs, W, raw, sc, X, e :: e2 :: es, C, h0, h, pos => by
    have h' : mE Γ N x sc e = true ∧ mEs Γ N (y :: xs) sc (e2 :: es) = true := by
      have h1 : (mE Γ N x sc e && mEs Γ N (y :: xs) sc (e2 :: es)) = true := h
      simpa using h1
    have s := sndE x C h'.1
    obtain ⟨p1, p2⟩ := sndAnds (y :: xs) C rfl h'.2 pos
    exact ⟨k_ands C.hK s.pe p1, w_ands s.pt p2⟩
theorem sndOrs : ∀ (xs : List Ex) {W : WX} {raw sc : Scope} {X : Cx} {es : List Expr}, Ctx Γ n F W N raw sc X → notNil xs = true → mEs Γ N xs sc es = true → ∀ pos, PE X (.BoolOp .Or es pos) (RdE F (run Γ.Δ n) W (.ors xs)) ∧ PW X (.BoolOp .Or es pos) (RdT F (run Γ.Δ n) W (.ors xs))
  | [], W, raw, sc, X, _, C, h0, h, pos => by cases h0
  | _ :: _, W, raw, sc, X, [], C, h0, h, pos => by cases h
  | [x], W, raw, sc, X, e :: es, C, h0, h, pos => by
    have h' : mE Γ N x sc e = true ∧ mEs Γ N [] sc es = true := by simpa [mEs] using h
    have s := sndE x C h'.1
    cases es with
    | nil => exact ⟨k_ors1 s.pe, w_ors1 s.pt⟩
    | cons _ _ => cases h'.2
  | x :: y :: xs, W, raw, sc, X, [e], C, h0, h, pos => by
    have h' : mE Γ N x sc e = true ∧ mEs Γ N (y :: xs) sc [] = true := by simpa [mEs] using h
    cases h'.2
  | x :: y :: xs, W, raw, sc, X, e :: e2 :: es, C, h0, h, pos => by
    have h' : mE Γ N x sc e = true ∧ mEs Γ N (y :: xs) sc (e2 :: es) = true := by
      have h1 : (mE Γ N x sc e && mEs Γ N (y :: xs) sc (e2 :: es)) = true := h
      simpa using h1
    have s := sndE x C h'.1
    obtain ⟨p1, p2⟩ := sndOrs (y :: xs) C rfl h'.2 pos
    exact ⟨k_ors C.hK s.pe p1, w_ors s.pt p2⟩
theorem sndC : ∀ (xs : List Ex) {W : WX} {raw sc : Scope} {X : Cx} {es : List Expr}, Ctx Γ n F W N raw sc X → xs.length ≤ 1 → mEs Γ N xs sc es = true → PTs X es (RdC F (run Γ.Δ n) W xs)
  | [], W, raw, sc, X, [], C, h0, h => ptsC_nil
  | [], W, raw, sc, X, _ :: _, C, h0, h => by cases h
  | [x], W, raw, sc, X, e :: es, C, h0, h => by
    have h' : mE Γ N x sc e = true ∧ mEs Γ N [] sc es = true := by simpa [mEs] using h
    have s := sndE x C h'.1
    cases es with
    | nil => exact ptsC_one s.pt
    | cons _ _ => cases h'.2
  | _ :: _, W, raw, sc, X, [], C, h0, h => by cases h
  | _ :: _ :: _, W, raw, sc, X, _, C, h0, h => by
    exfalso
    simp only [List.length_cons] at h0
    omega
theorem sndS : ∀ (s : Src) (st : Bool) {W : WX} {raw sc : Scope} {X : Cx} {tg e : Expr}, Ctx Γ n F W N raw sc X → mS Γ N s sc e = true → PI X tg e (RdS F (run Γ.Δ n) W st s)
  | .val a, st, W, raw, sc, X, tg, e, C, h => pi_val C.hK (sndE a C h).pe
  | .rng1 a, st, W, raw, sc, X, tg, e, C, h => by
    unfold mS at h
    split at h
    · rename_i u p y pos
      simp only [Bool.and_eq_true] at h
      obtain ⟨⟨h1, h2⟩, h3⟩ := h
      have e1 : u = "range" := by simpa using h2
      subst e1
      exact pi_rng1 C h1 (mE_shape h3) (sndE a C h3).pe
    · cases h
  | .rng2 a b, st, W, raw, sc, X, tg, e, C, h => by
    unfold mS at h
    split at h
    · rename_i u p y z pos
      simp only [Bool.and_eq_true] at h
      obtain ⟨⟨⟨h1, h2⟩, h3⟩, h4⟩ := h
      have e1 : u = "range" := by simpa using h2
      subst e1
      exact pi_rng2 C h1 (mE_shape h3) (mE_shape h4) (sndE a C h3).pe (sndE b C h4).pe
    · cases h
  | .enu _, st, W, raw, sc, X, tg, e, C, h => by cases h
  | .zip _ _, st, W, raw, sc, X, tg, e, C, h => by cases h
end
end
end Cw

namespace Cw
open PySem PySem.Spec PyProof.Rows L2
theorem PS_imp {X : Cx} {st : Stmt} {t t' : TS} (h : PS X st t) (i : ∀ D σ H, t' D σ H → t D σ H) : PS X st t' := ⟨fun pins s σ H D I q => h.run pins s σ H D I (i _ _ _ q)⟩
theorem PSs_imp {X : Cx} {st : List Stmt} {t t' : TS} (h : PSs X st t) (i : ∀ D σ H, t' D σ H → t D σ H) : PSs X st t' := ⟨fun pins s σ H D I q => h.run pins s σ H D I (i _ _ _ q)⟩
/-- what the frame may rely on from one statement to the next -/
structure Gr (F : Fx) (G H G' H' : Hp) : Prop where
  data : Sub G G'
  lent : ∀ a, a ∈ F.al → ∀ o, H a = some o → H' a = some o
section
variable {F : Fx} {G H G1 H1 G2 H2 : Hp} {S : Sta}
theorem Gr.refl : Gr F G H G H := ⟨fun _ _ h => h, fun _ _ _ h => h⟩
theorem Gr.trans (a : Gr F G H G1 H1) (b : Gr F G1 H1 G2 H2) : Gr F G H G2 H2 := ⟨fun x o h => b.data x o (a.data x o h), fun x m o h => b.lent x m o (a.lent x m o h)⟩
theorem Good.al_ne (g : Good F G H S) {a : Addr} (h : a ∈ F.al) : a ≠ F.sa := by
  obtain ⟨k, hk⟩ := List.getElem?_of_mem h
  have hl : k < F.B.length := by
    rw [← g.len]
    exact (List.getElem?_eq_some_iff.mp hk).1
  exact (g.bor k a _ hk (List.getElem?_eq_getElem hl)).1
theorem Gr.ext (g : Good F G H S) (x : Ext F.sa G H G1 H1) : Gr F G H G1 H1 := ⟨x.data, fun a m o h => x.keep a o h (g.al_ne m)⟩
end
def PostS (F : Fx) (W : WX) (E : Ends) (G0 H0 G H : Hp) : Out → Prop
  | .nx ρ S => ∀ σ' G' H' β', FR F G0 H0 ρ S σ' G' H' β' → Gr F G H G' H' → E.nx σ' H'
  | .bk ρ S => ∀ σ' G' H' β', FR F G0 H0 ρ S σ' G' H' β' → Gr F G H G' H' → E.bk σ' H'
  | .ct ρ S => ∀ σ' G' H' β', FR F G0 H0 ρ S σ' G' H' β' → Gr F G H G' H' → E.ct σ' H'
  | .rt d S => ∀ v G' H', Ext F.sa G0 H0 G' H' → Good F G' H' S → Rp F.K G' v d → E.rt v H'
  | .exc c ρ S => ∀ σ' G' H' β', FR F G0 H0 ρ S σ' G' H' β' → Gr F G H G' H' → W (.ref (F.ca c)) none σ' H'
  | .bad => False
def RdSm (F : Fx) (cf : CallF) (W : WX) (s : Sm) : TS := fun E σ H => ∃ G0 H0 ρ S G β, FR F G0 H0 ρ S σ G H β ∧ PostS F W E G0 H0 G H (xS cf F.B s ρ S)
def RdSs (F : Fx) (cf : CallF) (W : WX) (s : List Sm) : TS := fun E σ H => ∃ G0 H0 ρ S G β, FR F G0 H0 ρ S σ G H β ∧ PostS F W E G0 H0 G H (xSs cf F.B s ρ S)
section
variable {F : Fx} {cf : CallF} {W : WX} {E : Ends} {G0 H0 G H G1 H1 : Hp} {σ : L2.St} {S : Sta} {ρ : Rho} {β : Nat → List Addr}
theorem PostS.ext {o : Out} (h : PostS F W E G0 H0 G H o) (x : Gr F G H G1 H1) : PostS F W E G0 H0 G1 H1 o := by
  cases o with
  | nx ρ S => exact fun σ' G' H' β' fr y => h σ' G' H' β' fr (x.trans y)
  | bk ρ S => exact fun σ' G' H' β' fr y => h σ' G' H' β' fr (x.trans y)
  | ct ρ S => exact fun σ' G' H' β' fr y => h σ' G' H' β' fr (x.trans y)
  | rt d S => exact h
  | exc c ρ S => exact fun σ' G' H' β' fr y => h σ' G' H' β' fr (x.trans y)
  | bad => exact h
theorem PostS.out {α : Type} {r : Res α} {f : α → Sta → Out} (fr : FR F G0 H0 ρ S σ G H β) (h : PostS F W E G0 H0 G H (r.out ρ f)) : Post F W σ G H r fun a S1 G1 H1 => PostS F W E G0 H0 G1 H1 (f a S1) := by
  cases r with
  | ok a S1 => exact fun G' H' x g => PostS.ext h (Gr.ext fr.good x)
  | exc c S1 => exact fun G' H' x g => h σ G' H' β (fr.step x g) (Gr.ext fr.good x)
  | bad => exact h
theorem PostS.seq {o : Out} {r : List Sm} (h : PostS F W E G0 H0 G H (o.seq fun ρ1 S1 => xSs cf F.B r ρ1 S1)) : PostS F W { E with nx := RdSs F cf W r E } G0 H0 G H o := by
  cases o with
  | nx ρ S => exact fun σ' G' H' β' fr y => ⟨G0, H0, ρ, S, G', β', fr, PostS.ext h y⟩
  | bk ρ S => exact h
  | ct ρ S => exact h
  | rt d S => exact h
  | exc c ρ S => exact h
  | bad => exact h
theorem pss_two {X : Cx} {s : Sm} {r : List Sm} {st : Stmt} {sts : List Stmt} (h1 : PS X st (RdSm F cf W s)) (h2 : PSs X sts (RdSs F cf W r)) : PSs X (st :: sts) (RdSs F cf W (s :: r)) :=
  PSs_imp (pss_cons h1 h2) fun E σ H ⟨G0, H0, ρ, S, G, β, fr, q⟩ => ⟨G0, H0, ρ, S, G, β, fr, PostS.seq q⟩
theorem pss_none {X : Cx} : PSs X [] (RdSs F cf W []) := PSs_imp pss_nil fun E σ H ⟨G0, H0, ρ, S, G, β, fr, q⟩ => q _ _ _ _ fr .refl
end
/-! ### own lists -/
section
variable {F : Fx} {G0 H0 G H : Hp} {ρ : Rho} {S : Sta} {σ : L2.St} {β : Nat → List Addr}
/-- a new list is the slot's own -/
theorem FR.own (f : FR F G0 H0 ρ S σ G H β) {D : Addr} (w : Off F G0 H0 β D) (hG : G D = none) {vs : List V} {ds : List PyData} (hD : H D = some (.lst vs)) (r : RpAll F.K G vs ds) (i : Nat) (hi : i < ρ.length) :
    FR F G0 H0 (ρ.set i (some (.own ds))) S (σ.set i (some (.ref D))) G H (fun j => if j = i then [D] else β j) where
  good := f.good
  ext := f.ext
  new := fun j a ha => by
    by_cases e : j = i
    · rw [if_pos e] at ha
      rw [List.mem_singleton.mp ha]
      exact ⟨w.h0, hG, w.sa, _, hD⟩
    · rw [if_neg e] at ha
      exact f.new j a ha
  one := fun j k a h1 h2 => by
    by_cases e : j = i
    · by_cases e' : k = i
      · rw [e, e']
      · rw [if_pos e] at h1
        rw [if_neg e', List.mem_singleton.mp h1] at h2
        exact absurd h2 (w.own k)
    · by_cases e' : k = i
      · rw [if_pos e'] at h2
        rw [if_neg e, List.mem_singleton.mp h2] at h1
        exact absurd h1 (w.own j)
      · rw [if_neg e] at h1
        rw [if_neg e'] at h2
        exact f.one j k a h1 h2
  off := fun j a ha => by
    by_cases e : j = i
    · rw [if_pos e] at ha
      rw [List.mem_singleton.mp ha]
      intro hm
      obtain ⟨k, hk⟩ := List.getElem?_of_mem hm
      exact w.al k D hk rfl
    · rw [if_neg e] at ha
      exact f.off j a ha
  len := by rw [List.length_set, List.length_set]; exact f.len
  slot := fun j e h => by
    by_cases hj : i = j
    · subst hj
      rw [List.getElem?_set_self hi] at h
      cases h
      exact ⟨.ref D, by rw [List.getElem?_set_self (by rw [← f.len]; exact hi)], D, vs, rfl, if_pos rfl, hD, r⟩
    · rw [List.getElem?_set_ne hj] at h
      obtain ⟨v, h1, h2⟩ := f.slot j e h
      refine ⟨v, by rw [List.getElem?_set_ne hj]; exact h1, ?_⟩
      cases e with
      | own xs =>
        obtain ⟨a, ws, e1, e2, h3, h4⟩ := h2
        exact ⟨a, ws, e1, (if_neg (Ne.symm hj)).trans e2, h3, h4⟩
      | _ => exact h2
/-- the slot's own list is changed -/
theorem FR.mut (f : FR F G0 H0 ρ S σ G H β) {i : Nat} {xs : List PyData} (h : ρ[i]? = some (some (.own xs))) :
    ∃ a vs, σ[i]? = some (some (.ref a)) ∧ H a = some (.lst vs) ∧ RpAll F.K G vs xs ∧ a ∉ F.al ∧ ∀ ws ys, RpAll F.K G ws ys → FR F G0 H0 (ρ.set i (some (.own ys))) S σ G (upd H a (.lst ws)) β := by
  obtain ⟨v, h1, a, vs, e1, e2, h3, h4⟩ := f.slot i _ h
  subst e1
  have ha : a ∈ β i := by rw [e2]; exact List.mem_singleton.mpr rfl
  obtain ⟨n0, nG, ns, _⟩ := f.new i a ha
  have nal := f.off i a ha
  have hi : i < ρ.length := (List.getElem?_eq_some_iff.mp h).1
  refine ⟨a, vs, h1, h3, h4, nal, fun ws ys r => ?_⟩
  have g : Good F G (upd H a (.lst ws)) S := by
    obtain ⟨vs', q1, q2⟩ := f.good.st
    refine ⟨fun b u hb => ?_, f.good.stn, ⟨vs', by rw [upd_ne ns.symm]; exact q1, q2⟩, f.good.len, fun k b zs hb hz => ?_⟩
    · have ne : b ≠ a := fun e => by rw [e, nG] at hb; cases hb
      rw [upd_ne ne]
      exact f.good.sub b u hb
    · obtain ⟨m, us, q3, q4⟩ := f.good.bor k b zs hb hz
      have ne : b ≠ a := fun e => nal (by rw [← e]; exact List.mem_of_getElem? hb)
      exact ⟨m, us, by rw [upd_ne ne]; exact q3, q4⟩
  refine ⟨g, ⟨fun b u hb n => ?_, fun b u hb => ?_, f.ext.data, f.ext.new⟩, fun j b hb => ?_, f.one, f.off, by rw [List.length_set]; exact f.len, fun j e hj => ?_⟩
  · have ne : b ≠ a := fun e => by rw [e, n0] at hb; cases hb
    rw [upd_ne ne]
    exact f.ext.keep b u hb n
  · have ne : b ≠ a := fun e => by rw [e, n0] at hb; cases hb
    rw [upd_ne ne]
    exact f.ext.there b u hb
  · obtain ⟨q1, q2, q3, u, q4⟩ := f.new j b hb
    by_cases e : b = a
    · subst e
      exact ⟨q1, q2, q3, _, upd_same⟩
    · exact ⟨q1, q2, q3, u, by rw [upd_ne e]; exact q4⟩
  · by_cases e' : i = j
    · subst e'
      rw [List.getElem?_set_self hi] at hj
      cases hj
      exact ⟨_, h1, a, ws, rfl, e2, upd_same, r⟩
    · rw [List.getElem?_set_ne e'] at hj
      obtain ⟨v, q1, q2⟩ := f.slot j e hj
      refine ⟨v, q1, ?_⟩
      cases e with
      | own zs =>
        obtain ⟨b, us, e3, e4, q3, q4⟩ := q2
        have ne : b ≠ a := fun e => e' (f.one i j a ha (by rw [e4, ← e]; exact List.mem_singleton.mpr rfl))
        exact ⟨b, us, e3, e4, by rw [upd_ne ne]; exact q3, q4⟩
      | _ => exact q2
theorem Gr.upd {a : Addr} {o : HO} (h : a ∉ F.al) : Gr F G H G (upd H a o) := ⟨fun _ _ h => h, fun b m o hb => by rw [upd_ne fun e => h (by rw [← e]; exact m)]; exact hb⟩
/-- the state list is changed -/
theorem FR.sta (f : FR F G0 H0 ρ S σ G H β) (S' : Sta) {ws : List V} (r : RpAll F.K G ws S') : FR F G0 H0 ρ S' σ G (upd H F.sa (.lst ws)) β := by
  have ne0 : ∀ {b u}, G b = some u → b ≠ F.sa := fun {b u} hb e => by rw [e, f.good.stn] at hb; cases hb
  obtain ⟨vs', p1, _⟩ := f.good.st
  refine ⟨⟨fun b u hb => by rw [upd_ne (ne0 hb)]; exact f.good.sub b u hb, f.good.stn, ⟨ws, upd_same, r⟩, f.good.len, fun k b zs hb hz => ?_⟩, ⟨fun b u hb n => by rw [upd_ne n]; exact f.ext.keep b u hb n, fun b u hb => ?_, f.ext.data, f.ext.new⟩, fun j b hb => ?_, f.one, f.off, f.len, fun j e hj => ?_⟩
  · obtain ⟨m, us, q3, q4⟩ := f.good.bor k b zs hb hz
    exact ⟨m, us, by rw [upd_ne m]; exact q3, q4⟩
  · by_cases e : b = F.sa
    · rw [e]; exact ⟨_, upd_same⟩
    · rw [upd_ne e]; exact f.ext.there b u hb
  · obtain ⟨q1, q2, q3, u, q4⟩ := f.new j b hb
    exact ⟨q1, q2, q3, u, by rw [upd_ne q3]; exact q4⟩
  · obtain ⟨v, q1, q2⟩ := f.slot j e hj
    refine ⟨v, q1, ?_⟩
    cases e with
    | own zs =>
      obtain ⟨b, us, e3, e4, q3, q4⟩ := q2
      have n := (f.new j b (by rw [e4]; exact List.mem_singleton.mpr rfl)).2.2.1
      exact ⟨b, us, e3, e4, by rw [upd_ne n]; exact q3, q4⟩
    | _ => exact q2
/-- the slot's own list is data from now on -/
theorem FR.frz (f : FR F G0 H0 ρ S σ G H β) {i : Nat} {xs : List PyData} (h : ρ[i]? = some (some (.own xs))) : ∃ G', Gr F G H G' H ∧ FR F G0 H0 (ρ.set i (some (.dat (.list xs)))) S σ G' H (fun j => if j = i then [] else β j) := by
  obtain ⟨v, h1, a, vs, e1, e2, h3, h4⟩ := f.slot i _ h
  subst e1
  have ha : a ∈ β i := by rw [e2]; exact List.mem_singleton.mpr rfl
  obtain ⟨n0, nG, ns, _⟩ := f.new i a ha
  have hi : i < ρ.length := (List.getElem?_eq_some_iff.mp h).1
  have dt : Sub G (upd G a (.lst vs)) := fun b u hb => by rw [upd_ne (ne_of_none hb nG)]; exact hb
  refine ⟨upd G a (.lst vs), ⟨dt, fun _ _ _ h => h⟩, ⟨⟨fun b u hb => ?_, ?_, ?_, f.good.len, fun k b zs hb hz => ?_⟩, ⟨f.ext.keep, f.ext.there, fun b u hb => dt _ _ (f.ext.data b u hb), fun b u hb => ?_⟩, fun j b hb => ?_, fun j k b h1 h2 => ?_, fun j b hb => ?_, by rw [List.length_set]; exact f.len, fun j e hj => ?_⟩⟩
  · by_cases e : b = a
    · rw [e, upd_same] at hb
      rw [e, h3]; exact hb
    · rw [upd_ne e] at hb
      exact f.good.sub b u hb
  · rw [upd_ne ns.symm]; exact f.good.stn
  · obtain ⟨ws, q1, q2⟩ := f.good.st
    exact ⟨ws, q1, RpAll.sub dt q2⟩
  · obtain ⟨m, us, q3, q4⟩ := f.good.bor k b zs hb hz
    exact ⟨m, us, q3, RpAll.sub dt q4⟩
  · by_cases e : b = a
    · rw [e]; exact .inr n0
    · rw [upd_ne e] at hb
      exact f.ext.new b u hb
  · by_cases e : j = i
    · rw [if_pos e] at hb; cases hb
    · rw [if_neg e] at hb
      obtain ⟨q1, q2, q3, q4⟩ := f.new j b hb
      have ne : b ≠ a := fun e3 => e (f.one j i b hb (by rw [e3]; exact ha))
      exact ⟨q1, by rw [upd_ne ne]; exact q2, q3, q4⟩
  · by_cases e : j = i
    · rw [if_pos e] at h1; cases h1
    · by_cases e' : k = i
      · rw [if_pos e'] at h2; cases h2
      · rw [if_neg e] at h1
        rw [if_neg e'] at h2
        exact f.one j k b h1 h2
  · by_cases e : j = i
    · rw [if_pos e] at hb; cases hb
    · rw [if_neg e] at hb
      exact f.off j b hb
  · by_cases hij : i = j
    · subst hij
      rw [List.getElem?_set_self hi] at hj
      cases hj
      exact ⟨_, h1, .lst upd_same (RpAll.sub dt h4)⟩
    · rw [List.getElem?_set_ne hij] at hj
      obtain ⟨v, q1, q2⟩ := f.slot j e hj
      refine ⟨v, q1, ?_⟩
      cases e with
      | own zs =>
        obtain ⟨b, us, e3, e4, q3, q4⟩ := q2
        exact ⟨b, us, e3, (if_neg (Ne.symm hij)).trans e4, q3, RpAll.sub dt q4⟩
      | dat d => exact Rp.sub dt q2
      | scr ns =>
        obtain ⟨b, e3, q3⟩ := q2
        exact ⟨b, e3, sqL_sub dt q3⟩
      | st => exact q2
      | bor k => exact q2
      | tab _ => exact q2
      | odi _ _ => exact q2
end
end Cw

namespace Cw
open PySem PySem.Spec PyProof.Rows L2
section
variable {Γ : Gl0} {n : Nat} {F : Fx} {W : WX} {cf : CallF} {N : List Str} {raw sc : Scope} {X : Cx} {e e2 e3 : Expr} {es : List Expr} {x y z : Ex} {xs : List Ex} {pos : Pos}
theorem keep_vr {v w : EV} {G H : Hp} {u : V} (h : keepE v = some w) (r : VR F G H v u) : VR F G H w u ∧ ∀ xs, w ≠ .own xs := by
  cases v with
  | dat d => cases h; exact ⟨r, fun _ e => by cases e⟩
  | bor k => cases h; exact ⟨r, fun _ e => by cases e⟩
  | st => cases h; exact ⟨r, fun _ e => by cases e⟩
  | _ => cases h
/-- no comprehension -/
def noLc : Expr → Bool
  | .ListComp _ _ _ _ => false
  | .SetComp _ _ _ _ => false
  | .DictComp _ _ _ _ _ => false
  | _ => true
theorem noLc_swap {e : Expr} (h : noLc e = true) (t : Option Expr) (l : Nat) (env : PySem.Env) : swapsWith e t l env = pure false := by
  cases e <;> first | rfl | cases h
theorem s_ex (h : PE X e (RdE F cf W x)) (hn : noLc e = true) : PS X (.Expr e pos) (RdSm F cf W (.ex x)) := by
  refine PS_imp (ps_expr h (noLc_swap hn _ _ _)) fun E σ H ⟨G0, H0, ρ, S, G, β, fr, q⟩ => ?_
  change PostS F W E G0 H0 G H ((eE cf F.B x ρ S).out ρ fun _ S1 => .nx ρ S1) at q
  exact RdE.mk fr (PostS.out fr q) fun v S1 G1 H1 u x1 fr1 vr k => k σ G1 H1 β fr1 .refl
theorem s_set (C : Ctx Γ n F W N raw sc X) {i : Nat} {u : Str} {p : Pos} (hi : isL N raw i u = true) (h : PE X e (RdE F cf W x)) (hn : noLc e = true) : PS X (.Assign [.Name u p] e pos) (RdSm F cf W (.set i x)) := by
  obtain ⟨h1, h2, h3⟩ := C.loc hi
  refine PS_imp (ps_set (by rw [C.hN]; exact C.nd) h1 h2 h (noLc_swap hn _ _ _) h3) fun E σ H ⟨G0, H0, ρ, S, G, β, fr, q⟩ => ?_
  change PostS F W E G0 H0 G H ((eE cf F.B x ρ S).out ρ fun v S1 => (Res.of (keepE v) S1).out ρ fun w S2 => .nx (ρ.set i (some w)) S2) at q
  refine RdE.mk fr (PostS.out fr q) fun v S1 G1 H1 u x1 fr1 vr k => ?_
  obtain ⟨w, h4, k⟩ := Post.of (PostS.out fr1 k) fr1.good
  obtain ⟨r, no⟩ := keep_vr h4 vr
  exact k _ G1 H1 β (fr1.setV i no r) .refl
/-- name = a list that is just made -/
def PSF (X : Cx) (F : Fx) (cf : CallF) (W : WX) (u : Str) (p : Pos) (e : Expr) (pos : Pos) (i : Nat) (x : Ex) : Prop := PS X (.Assign [.Name u p] e pos) (tAsg (RdF F cf W x) (gName i))
theorem psf_plain (C : Ctx Γ n F W N raw sc X) {i : Nat} {u : Str} {p : Pos} (hi : isL N raw i u = true) (h : PE X e (RdF F cf W x)) (hs : ∀ l, swapsWith e (some (.Name u p)) l X.env = pure false) : PSF X F cf W u p e pos i x := by
  obtain ⟨h1, h2, h3⟩ := C.loc hi
  exact ps_set (by rw [C.hN]; exact C.nd) h1 h2 h (hs _) h3
theorem frsh_dat {G H : Hp} {Q : VK} {r : Res EV} {σ : L2.St} {G0 H0 : Hp} {ρ : Rho} {S : Sta} {β : Nat → List Addr} (fr : FR F G0 H0 ρ S σ G H β) (l : ∀ v S', r = .ok v S' → ∃ ds, v = .dat (.list ds)) (q : Post F W σ G H r fun e _ G' H' => ∀ v, VR F G' H' e v → Q v H') :
    Post F W σ G H r fun e _ G' H' => ∃ ds, e = .dat (.list ds) ∧ ∀ D vs, H D = none → G' D = none → H' D = some (.lst vs) → RpAll F.K G' vs ds → Q (.ref D) H' := by
  cases r with
  | bad => exact q
  | exc c S' => exact q
  | ok e S' =>
    obtain ⟨ds, he⟩ := l e S' rfl
    subst he
    intro G' H' y g
    refine ⟨ds, rfl, fun D vs h1 h2 h3 h4 => ?_⟩
    obtain ⟨ws, hs, _⟩ := fr.good.st
    obtain ⟨y', g'⟩ := Good.frz (vs := vs) y g h1 h2 h3 ⟨_, hs⟩
    exact q _ _ y' g' _ (.lst upd_same (RpAll.sub (fun b u hb => by rw [upd_ne (ne_of_none hb h2)]; exact hb) h4))
theorem s_setF {i : Nat} {u : Str} {p : Pos} (l : Lsty x) (h : PSF X F cf W u p e pos i x) : PS X (.Assign [.Name u p] e pos) (RdSm F cf W (.set i x)) := by
  refine PS_imp h fun E σ H ⟨G0, H0, ρ, S, G, β, fr, q⟩ => ?_
  change PostS F W E G0 H0 G H ((eE cf F.B x ρ S).out ρ fun v S1 => (Res.of (keepE v) S1).out ρ fun w S2 => .nx (ρ.set i (some w)) S2) at q
  refine ⟨G0, H0, ρ, S, G, β, fr, frsh_dat (Q := fun x H1 => gName i x σ H1 E.nx) fr (fun v S' hv => l cf F.B ρ S v S' hv) ((PostS.out fr q).imp fun v S1 G1 H1 x1 g1 k v' vr => ?_)⟩
  have fr1 := fr.step x1 g1
  obtain ⟨w, h4, k⟩ := Post.of (PostS.out fr1 k) fr1.good
  obtain ⟨r, no⟩ := keep_vr h4 vr
  exact k _ G1 H1 β (fr1.setV i no r) .refl
theorem s_own {i : Nat} {u : Str} {p : Pos} (hl : ∀ {σ : L2.St} {pins : List (Addr × Obj)} {H : Hp} {s : Shared}, Inv X pins σ H s → i < σ.length) (h : PSF X F cf W u p e pos i x) : PS X (.Assign [.Name u p] e pos) (RdSm F cf W (.own i x)) := by
  refine ⟨fun pins s σ H E I ⟨G0, H0, ρ, S, G, β, fr, q⟩ => h.run pins s σ H E I ?_⟩
  have hi := hl I
  change PostS F W E G0 H0 G H ((eE cf F.B x ρ S).out ρ fun v S1 => (Res.of (ownE v) S1).out ρ fun w S2 => .nx (ρ.set i (some w)) S2) at q
  refine ⟨G0, H0, ρ, S, G, β, fr, (PostS.out fr q).imp fun v S1 G1 H1 x1 g1 k => ?_⟩
  have fr1 := fr.step x1 g1
  obtain ⟨w, h4, k⟩ := Post.of (PostS.out fr1 k) fr1.good
  cases v with
  | dat d =>
    cases d with
    | list ds =>
      cases h4
      refine ⟨ds, rfl, fun D vs h1 h2 h3 h4 => ?_⟩
      have off : Off F G0 H0 β D := Off.of fr h1
      exact k _ G1 H1 _ (fr1.own off h2 h3 h4 i (by rw [fr.len]; exact hi)) .refl
    | _ => cases h4
  | _ => cases h4
theorem s_ret (h : PE X e (RdE F cf W x)) : PS X (.Return (some e) pos) (RdSm F cf W (.ret x)) := by
  refine PS_imp (ps_ret h) fun E σ H ⟨G0, H0, ρ, S, G, β, fr, q⟩ => ?_
  change PostS F W E G0 H0 G H ((eE cf F.B x ρ S).out ρ fun v S1 => (Res.of (datE v) S1).out ρ fun d S2 => .rt d S2) at q
  refine RdE.mk fr (PostS.out fr q) fun v S1 G1 H1 u x1 fr1 vr k => ?_
  obtain ⟨d, h4, k⟩ := Post.of (PostS.out fr1 k) fr1.good
  cases v with
  | dat d' => cases h4; exact k u G1 H1 fr1.ext fr1.good vr
  | _ => cases h4
theorem s_brk : PS X (.Break pos) (RdSm F cf W .brk) := PS_imp ps_break fun E σ H ⟨G0, H0, ρ, S, G, β, fr, q⟩ => q _ _ _ _ fr .refl
theorem s_cnt : PS X (.Continue pos) (RdSm F cf W .cnt) := PS_imp ps_continue fun E σ H ⟨G0, H0, ρ, S, G, β, fr, q⟩ => q _ _ _ _ fr .refl
theorem s_ite {a b : List Sm} {sa sb : List Stmt} (h : PT X e (RdT F cf W x)) (ha : PSs X sa (RdSs F cf W a)) (hb : PSs X sb (RdSs F cf W b)) : PS X (.If e sa sb pos) (RdSm F cf W (.ite x a b)) := by
  refine PS_imp (ps_if h ha hb) fun E σ H ⟨G0, H0, ρ, S, G, β, fr, q⟩ => ?_
  change PostS F W E G0 H0 G H ((eE cf F.B x ρ S).out ρ fun v S1 => (Res.of (truth F.B v) S1).out ρ fun k S2 => if k then xSs cf F.B a ρ S2 else xSs cf F.B b ρ S2) at q
  have e1 : ((eE cf F.B x ρ S).out ρ fun v S1 => (Res.of (truth F.B v) S1).out ρ fun k S2 => if k then xSs cf F.B a ρ S2 else xSs cf F.B b ρ S2) = (eT cf F.B x ρ S).out ρ fun k S2 => if k then xSs cf F.B a ρ S2 else xSs cf F.B b ρ S2 := by
    unfold eT
    cases eE cf F.B x ρ S <;> rfl
  rw [e1] at q
  refine RdT.mk fr (PostS.out fr q) fun b' S1 G1 H1 x1 fr1 k => ?_
  cases b' with
  | true => exact (if_pos rfl).mpr ⟨G0, H0, ρ, S1, G1, β, fr1, k⟩
  | false => exact (if_neg (by decide)).mpr ⟨G0, H0, ρ, S1, G1, β, fr1, k⟩
theorem slotE_some {ρ : Rho} {i : Nat} {v : EV} (h : slotE ρ i = some v) : ρ[i]? = some (some v) := by
  unfold slotE at h
  obtain ⟨o, h1, h2⟩ := Option.bind_eq_some_iff.mp h
  rw [h1]
  exact congrArg _ h2
theorem s_aug (C : Ctx Γ n F W N raw sc X) {i : Nat} {u : Str} {p : Pos} (hi : isL N raw i u = true) (h : PE X e (RdE F cf W x)) : PS X (.AugAssign (.Name u p) .Add e pos) (RdSm F cf W (.aug i x)) := by
  obtain ⟨h1, h2, h3⟩ := C.loc hi
  refine PS_imp (ps_aug (by rw [C.hN]; exact C.nd) h1 h2 h ip_add h3) fun E σ H ⟨G0, H0, ρ, S, G, β, fr, q⟩ => ?_
  change PostS F W E G0 H0 G H ((Res.of ((slotE ρ i).bind intOf) S).out ρ fun a S1 => (eE cf F.B x ρ S1).out ρ fun y S2 => (Res.of (intOf y) S2).out ρ fun b S3 => .nx (ρ.set i (some (.dat (.int (a + b))))) S3) at q
  obtain ⟨a, h4, q⟩ := Post.of (PostS.out fr q) fr.good
  obtain ⟨v, h5, h6⟩ := Option.bind_eq_some_iff.mp h4
  obtain ⟨w, h7, h8⟩ := fr.get (slotE_some h5)
  refine ⟨w, h7, RdE.mk fr (PostS.out fr q) fun v S1 G1 H1 u x1 fr1 vr k => ?_⟩
  obtain ⟨b, h9, k⟩ := Post.of (PostS.out fr1 k) fr1.good
  exact ⟨a, b, int_of h6 h8, int_of h9 vr, k _ G1 H1 β (fr1.set i (.int _)) .refl⟩
/-- o[i], o a list, i from 0 on -/
def rGetN : V → V → Hp → VK → Prop := fun o i H Q => ∃ p xs k z, o = .ref p ∧ i = .int ((k : Nat) : Int) ∧ k < 1000 ∧ H p = some (.lst xs) ∧ xs[k]? = some z ∧ Q z H
theorem get_list : PGet X rGetN := by
  intro pins s σ H o i ov iv Q I ro ri h
  obtain ⟨p, ys, k, z, rfl, rfl, hk, hp, hz, q⟩ := h
  cases ro
  obtain ⟨t, rfl⟩ := ri
  obtain ⟨its, r, pl, hz2⟩ := I.list (SqL.of hp)
  obtain ⟨w, ew, rw'⟩ := r.get hz
  refine wpAny_getItem_list pl.isList (by omega) (by omega) (x := w) (by simpa using ew) ⟨z, H, I, rw', q⟩
end
end Cw

namespace Cw
open PySem PySem.Spec PyProof.Rows L2
section
variable {Γ : Gl0} {n : Nat} {F : Fx} {W : WX} {cf : CallF} {N : List Str} {raw sc : Scope} {X : Cx} {e e2 e3 : Expr} {es : List Expr} {x y z : Ex} {xs : List Ex} {pos : Pos}
/-- a list in a slot, that may be changed -/
theorem mut_at {G0 H0 G H : Hp} {ρ : Rho} {S : Sta} {σ : L2.St} {β : Nat → List Addr} (fr : FR F G0 H0 ρ S σ G H β) {i : Nat} {v k : EV} {d : PyData} {p : EV × Sta} {u z : V} {E : Ends} (hs : slotE ρ i = some v) (h : setE S v k d = some p)
    (hk : VR F G H k u) (hd : Rp F.K G z d) (q : PostS F W E G0 H0 G H (.nx (ρ.set i (some p.1)) p.2)) : ∃ o, σ[i]? = some (some o) ∧ rSetL o u z H fun H1 => E.nx σ H1 := by
  have hρ := slotE_some hs
  cases k with
  | dat dk =>
    cases dk with
    | int j =>
      have eu : u = .int j := Rp.int_inv hk
      subst eu
      cases v with
      | st =>
        obtain ⟨j', h1, h2⟩ := Option.map_eq_some_iff.mp h
        subst h2
        obtain ⟨o, h3, h4⟩ := fr.get hρ
        have eo : o = .ref F.sa := h4
        subst eo
        obtain ⟨vs, h5, h6⟩ := fr.good.st
        have hl : ρ.set i (some .st) = ρ := by
          apply List.ext_getElem?
          intro t
          by_cases e : i = t
          · subst e
            rw [List.getElem?_set_self (List.getElem?_eq_some_iff.mp hρ).1, hρ]
          · rw [List.getElem?_set_ne e]
        refine ⟨_, h3, F.sa, vs, j, j', rfl, rfl, h5, by rw [h6.len]; exact h1, ?_⟩
        have f2 := fr.sta (S.set j' d) (RpAll.set hd j' h6)
        rw [hl] at q
        exact q σ G _ β f2 (Gr.upd fun m => fr.good.al_ne m rfl)
      | own xs =>
        obtain ⟨j', h1, h2⟩ := Option.map_eq_some_iff.mp h
        subst h2
        obtain ⟨a, vs, h3, h4, h5, nal, mk⟩ := fr.mut hρ
        refine ⟨_, h3, a, vs, j, j', rfl, rfl, h4, by rw [h5.len]; exact h1, ?_⟩
        exact q σ G _ β (mk _ _ (RpAll.set hd j' h5)) (Gr.upd nal)
      | _ => cases h
    | _ => cases v <;> cases h
  | _ => cases v <;> cases h
theorem sw_tup {es : List Expr} {k : Nat} {p : Pos} {e : Expr} {l : Nat} {env : PySem.Env} : swapsWithSole [.Tuple es k p] e l env = pure false := by cases e <;> rfl
theorem sw_sub {a b : Expr} {p : Pos} {e : Expr} {l : Nat} {env : PySem.Env} : swapsWithSole [.Subscript a b p] e l env = pure false := by cases e <;> rfl
theorem noLc_sole {e : Expr} (h : noLc e = true) (t : Expr) (l : Nat) (env : PySem.Env) : swapsWithSole [t] e l env = pure false := noLc_swap h (some t) l env
theorem mE_nosl {x : Ex} {sc : Scope} {e : Expr} (h : mE Γ N x sc e = true) : ∀ a b c p, e ≠ .Slice a b c p := fun a b c p he => by
  rw [he, mE_slice] at h
  cases h
theorem asg_plain {e o : Expr} {p : Pos} {env : PySem.Env} (h : ∀ a b c p, e ≠ .Slice a b c p) (v : Value) : assign (.Subscript o e p) env v = (do
    let ov ← holding [v] (eval o env)
    let iv ← holding [v, ov] (eval e env)
    standAt p
    holding [v, ov, iv] (setItem ov iv v)
    release [v, ov, iv] []) := by
  cases e <;> first | rfl | exact absurd rfl (h _ _ _ _)
theorem dat_of {v : EV} {d : PyData} {G H : Hp} {u : V} (h : datE v = some d) (r : VR F G H v u) : Rp F.K G u d := by
  cases v with
  | dat d' => cases h; exact r
  | _ => cases h
theorem s_sit (C : Ctx Γ n F W N raw sc X) {i : Nat} {u : Str} {p p2 : Pos} (hi : isV N sc i u = true) (h : PE X e (RdE F cf W x)) (hk : PE X e2 (RdE F cf W y)) (s2 : ∀ a b c p, e2 ≠ .Slice a b c p) : PS X (.Assign [.Subscript (.Name u p) e2 p2] e pos) (RdSm F cf W (.sit i y x)) := by
  obtain ⟨h1, h2, h3, h4⟩ := C.vis hi
  refine PS_imp (ps_asg h (pg_sub (pe_var h1 h2 h3 h4) hk set_list (asg_plain s2)) sw_sub rfl rfl) fun E σ H ⟨G0, H0, ρ, S, G, β, fr, q⟩ => ?_
  change PostS F W E G0 H0 G H ((eE cf F.B x ρ S).out ρ fun v S1 => (Res.of ((datE v).bind fun d => (slotE ρ i).map fun x => (d, x)) S1).out ρ fun q S2 => (eE cf F.B y ρ S2).out ρ fun w S3 => (Res.of (setE S3 q.2 w q.1) S3).out ρ fun p _ => .nx (ρ.set i (some p.1)) p.2) at q
  refine RdE.mk fr (PostS.out fr q) fun v S1 G1 H1 u x1 fr1 vr k => ?_
  obtain ⟨q, h5, k⟩ := Post.of (PostS.out fr1 k) fr1.good
  obtain ⟨d, h6, h7⟩ := Option.bind_eq_some_iff.mp h5
  obtain ⟨w, h8, h9⟩ := Option.map_eq_some_iff.mp h7
  subst h9
  obtain ⟨o, ho, _⟩ := fr1.get (slotE_some h8)
  refine ⟨o, ho, RdE.mk fr1 (PostS.out fr1 k) fun k' S2 G2 H2 u2 x2 fr2 vr2 k => ?_⟩
  obtain ⟨p, h10, k⟩ := Post.of (PostS.out fr2 k) fr2.good
  obtain ⟨o', ho', r⟩ := mut_at fr2 h8 h10 vr2 (dat_of h6 (vr.ext x2)) k
  rw [ho] at ho'
  cases ho'
  exact r
theorem aug_store {o : Expr} {p : Pos} {c : Int} {k : Nat} {ov iv new : Value} : augStore (.Constant (.int c) k p) ov iv new = (do holding [new, ov, iv] (setItem ov iv new); release [new, ov, iv] []; pure .next) := rfl
theorem s_augs (C : Ctx Γ n F W N raw sc X) {i k : Nat} {j : Nat} {u : Str} {p p2 p3 : Pos} (hi : isV N sc i u = true) (h : PE X e (RdE F cf W x)) : PS X (.AugAssign (.Subscript (.Name u p) (.Constant (.int k) j p2) p3) .Add e pos) (RdSm F cf W (.augs i k x)) := by
  obtain ⟨h1, h2, h3, h4⟩ := C.vis hi
  refine PS_imp (ps_augS (pe_var h1 h2 h3 h4) pe_int get_list h ip_add set_list) fun E σ H ⟨G0, H0, ρ, S, G, β, fr, q⟩ => ?_
  change PostS F W E G0 H0 G H ((Res.of ((slotE ρ i).bind fun x => (getN S x k).map fun a => (a, x)) S).out ρ fun q S1 => (eE cf F.B x ρ S1).out ρ fun y S2 => (Res.of ((intOf y).bind fun b => setE S2 q.2 (.dat (.int k)) (.int (q.1 + b))) S2).out ρ fun p _ => .nx (ρ.set i (some p.1)) p.2) at q
  obtain ⟨q, h5, k1⟩ := Post.of (PostS.out fr q) fr.good
  obtain ⟨w, h8, h7⟩ := Option.bind_eq_some_iff.mp h5
  obtain ⟨a, h6, h9⟩ := Option.map_eq_some_iff.mp h7
  subst h9
  obtain ⟨o, ho, ro⟩ := fr.get (slotE_some h8)
  refine ⟨o, ho, ?_⟩
  have got : ∃ (p : Addr) (xs : List V), o = .ref p ∧ H p = some (.lst xs) ∧ xs[k]? = some (.int a) ∧ k < 1000 := by
    unfold getN at h6
    split at h6
    · rename_i hk
      cases w with
      | st =>
        obtain ⟨d, g1, g2⟩ := Option.bind_eq_some_iff.mp h6
        obtain ⟨vs, g3, g4⟩ := fr.good.st
        obtain ⟨v, g5, g6⟩ := g4.get g1
        have ev := int_of (G := G) (H := H) g2 (F := F) g6
        subst ev
        exact ⟨_, vs, ro, g3, g5, hk⟩
      | own zs =>
        obtain ⟨d, g1, g2⟩ := Option.bind_eq_some_iff.mp h6
        obtain ⟨b, vs, g7, _, g3, g4⟩ := ro
        obtain ⟨v, g5, g6⟩ := g4.get g1
        have ev := int_of (G := G) (H := H) g2 (F := F) g6
        subst ev
        exact ⟨_, vs, g7, g3, g5, hk⟩
      | _ => cases h6
    · cases h6
  obtain ⟨b, zs, eo, g1, g2, hk⟩ := got
  refine ⟨b, zs, k, .int a, eo, rfl, hk, g1, g2, RdE.mk fr (PostS.out fr k1) fun v S1 G1 H1 u x1 fr1 vr k2 => ?_⟩
  obtain ⟨p, h10, k3⟩ := Post.of (PostS.out fr1 k2) fr1.good
  obtain ⟨c, h11, h12⟩ := Option.bind_eq_some_iff.mp h10
  refine ⟨a, c, rfl, int_of h11 vr, ?_⟩
  obtain ⟨o', ho', r⟩ := mut_at fr1 h8 h12 (u := .int k) (.int _) (.int _) k3
  rw [ho] at ho'
  cases ho'
  exact r
theorem s_app (C : Ctx Γ n F W N raw sc X) {i : Nat} {u : Str} {p apos cpos : Pos} (hi : isV N sc i u = true) (h : PE X e (RdE F cf W x)) (se : Shape e) (hl : (apos.endLine == cpos.line) = true) : PS X (.Expr (.Call (.Attribute (.Name u p) "append" apos) [e] [] cpos) pos) (RdSm F cf W (.app i x)) := by
  obtain ⟨h1, h2, h3, h4⟩ := C.vis hi
  have st1 : starEach [e] X.env = [(false, eval e X.env)] := se.star [] X.env
  refine PS_imp (ps_expr (pe_bm PySem.F.plainAttrs_list PySem.F.slot_list_append PySem.F.type_list_append mt_append (pe_var h1 h2 h3 h4) (pa_cons h pa_nil st1) rfl (by rw [st1]; rfl) hl st1 rfl) rfl) fun E σ H ⟨G0, H0, ρ, S, G, β, fr, q⟩ => ?_
  change PostS F W E G0 H0 G H ((Res.of ((slotE ρ i).bind ownX) S).out ρ fun xs S1 => (eE cf F.B x ρ S1).out ρ fun v S2 => (Res.of ((datE v).bind fun d => if lenOk (xs.length + 1) then some d else none) S2).out ρ fun d S3 => .nx (ρ.set i (some (.own (xs ++ [d])))) S3) at q
  obtain ⟨xs, h8, k1⟩ := Post.of (PostS.out fr q) fr.good
  obtain ⟨w, h9, h10⟩ := Option.bind_eq_some_iff.mp h8
  cases w with
  | own ys =>
    cases h10
    have hρ := slotE_some h9
    obtain ⟨a, vs, g1, g2, g3, nal, mk⟩ := fr.mut hρ
    refine ⟨_, g1, .inl ⟨rfl, vs, SqL.of g2⟩, RdE.mk fr (PostS.out fr k1) fun v S1 G1 H1 u x1 fr1 vr k2 => ?_⟩
    obtain ⟨d, h11, k3⟩ := Post.of (PostS.out fr1 k2) fr1.good
    obtain ⟨d', h12, h13⟩ := Option.bind_eq_some_iff.mp h11
    split at h13
    · rename_i hl'
      cases h13
      obtain ⟨a', vs', g4, g5, g6, nal', mk'⟩ := fr1.mut hρ
      rw [g1] at g4
      cases g4
      have lz := lenOk_le hl'
      refine ⟨a, vs', u, rfl, rfl, g5, by rw [g6.len]; omega, ?_⟩
      exact k3 _ _ _ _ (mk' _ _ (RpAll.app g6 (.cons (dat_of h12 vr) .nil))) (Gr.upd nal')
    · cases h13
  | _ => cases h10
/-- a, b = x, y stored from the right -/
theorem s_par2 (C : Ctx Γ n F W N raw sc X) {i j : Nat} {u v : Str} {pu pv pt p2 : Pos} {kt k2 : Nat} (hi : isL N raw i u = true) (hj : isL N raw j v = true) (hij : i ≠ j) (hu : X.env.scope.names.lookup u = some .local) (hv : X.env.scope.names.lookup v = some .local) (h : PE X e (RdE F cf W x)) (h2 : PE X e2 (RdE F cf W y)) (s1 : Shape e) (s2 : Shape e2)
    (hw : swappedStores [.Tuple [.Name u pu, .Name v pv] kt pt] (.Tuple [e, e2] k2 p2) X.env = pure (some [u, v])) : PS X (.Assign [.Tuple [.Name u pu, .Name v pv] kt pt] (.Tuple [e, e2] k2 p2) pos) (RdSm F cf W (.par2 i j x y)) := by
  obtain ⟨h3, _, _⟩ := C.loc hi
  obtain ⟨h4, _, _⟩ := C.loc hj
  have st2 : starEach [e2] X.env = [(false, eval e2 X.env)] := s2.star [] X.env
  refine PS_imp (ps_par C.calm (by rw [C.hN]; exact C.nd) h3 h4 hij hu hv (pa_cons h (pa_cons h2 pa_nil st2) (s1.star _ X.env)) hw rfl) fun E σ H ⟨G0, H0, ρ, S, G, β, fr, q⟩ => ?_
  change PostS F W E G0 H0 G H ((eE cf F.B x ρ S).out ρ fun v S1 => (eE cf F.B y ρ S1).out ρ fun w S2 => (Res.of ((datE v).bind fun d => (datE w).map fun e => (d, e)) S2).out ρ fun p S3 => .nx ((ρ.set i (some (.dat p.1))).set j (some (.dat p.2))) S3) at q
  refine RdE.mk fr (PostS.out fr q) fun v1 S1 G1 H1 u1 x1 fr1 vr1 k1 => RdE.mk fr1 (PostS.out fr1 k1) fun v2 S2 G2 H2 u2 x2 fr2 vr2 k2 => ?_
  obtain ⟨p, h5, k3⟩ := Post.of (PostS.out fr2 k2) fr2.good
  obtain ⟨d, h6, h7⟩ := Option.bind_eq_some_iff.mp h5
  obtain ⟨d2, h8, h9⟩ := Option.map_eq_some_iff.mp h7
  subst h9
  exact ⟨u1, u2, rfl, k3 _ _ _ _ ((fr2.set i (dat_of h6 (vr1.ext x2))).set j (dat_of h8 vr2)) .refl⟩
theorem s_unp (C : Ctx Γ n F W N raw sc X) {ps : List Pat} {k : Nat} {p : Pos} (hp : mPs N raw ps es = true) (h : PE X e (RdE F cf W x)) (hw : swappedStores [.Tuple es k p] e X.env = pure none) : PS X (.Assign [.Tuple es k p] e pos) (RdSm F cf W (.unp ps x)) := by
  have hg : PG X (.Tuple es k p) (gP F.K (.t ps)) := pg_pat C (p := .t ps) hp
  refine PS_imp (ps_asg h hg sw_tup hw rfl) fun E σ H ⟨G0, H0, ρ, S, G, β, fr, q⟩ => ?_
  change PostS F W E G0 H0 G H ((eE cf F.B x ρ S).out ρ fun v S1 => (Res.of ((datE v).bind fun d => bindP (.t ps) d ρ) S1).out ρ fun ρ' S2 => .nx ρ' S2) at q
  refine RdE.mk fr (PostS.out fr q) fun v S1 G1 H1 u x1 fr1 vr k => ?_
  obtain ⟨ρ', h5, k1⟩ := Post.of (PostS.out fr1 k) fr1.good
  obtain ⟨d, h6, h7⟩ := Option.bind_eq_some_iff.mp h5
  exact gP_ok fr1 (dat_of h6 vr) h7 fun σ' fr2 _ => k1 _ _ _ _ fr2 .refl
/-! ### loops -/
theorem s_for (C : Ctx Γ n F W N raw sc X) {p : Pat} {s : Src} {b : List Sm} {tg it : Expr} {sts : List Stmt} (po : PassesOwn (model X.prog X.w) X.A X.env X.xe) (hp : mP N raw p tg = true) (hi : PI X tg it (RdS F cf W true s)) (hb : PSs X sts (RdSs F cf W b)) (hf : ∀ v, foldedSetIterable it X.env v = pure v) : PS X (.For tg it sts [] pos) (RdSm F cf W (.for p s b)) := by
  refine PS_imp (ps_for po C.calm hi (pg_pat C hp) hb hf) fun E σ H ⟨G0, H0, ρ, S, G, β, fr, q⟩ => ?_
  change PostS F W E G0 H0 G H ((eSrc cf F.B true s ρ S).out ρ fun xs S1 => forL (bindP p) (fun r T => xSs cf F.B b r T) xs ρ S1) at q
  refine ⟨G0, H0, ρ, S, G, β, fr, (PostS.out fr q).imp fun xs S1 G1 H1 x1 g1 k J wk => ?_⟩
  have fr1 := fr.step x1 g1
  obtain ⟨Gd, Y, w1, w2, w3⟩ := wk
  have kp : ∀ {G H : Hp}, Gr F G1 H1 G H → Sub G H → Keeps F true G1 H1 H := fun y sb b o hb hn hk => by
    rcases hk rfl with z | z
    · exact sb _ _ (y.data _ _ z)
    · exact y.lent b z o hb
  refine for_it w1 (fun i σ H => ∃ ρ S G β, FR F G0 H0 ρ S σ G H β ∧ Gr F G1 H1 G H ∧ PostS F W E G0 H0 G H (forL (bindP p) (fun r T => xSs cf F.B b r T) (xs.drop i) ρ S)) ?_ ?_ ?_ ?_
  · exact ⟨ρ, S1, G1, β, fr1, .refl, k⟩
  · rintro i σ2 H2 hi ⟨ρ2, S2, G2, β2, fr2, y, _⟩
    exact w2 H2 (kp y fr2.good.sub)
  · rintro i v σ2 H2 H2' hi ⟨ρ2, S2, G2, β2, fr2, y, q2⟩ yy
    obtain ⟨d, hx, hc⟩ := w3 i H2 v H2' hi (kp y fr2.good.sub) yy
    rw [drop_at hx] at q2
    obtain ⟨G3, r3, x3, g3⟩ : ∃ G', Rp F.K G' v d ∧ Ext F.sa G2 H2 G' H2' ∧ Good F G' H2' S2 := by
      rcases hc with ⟨e1, r⟩ | ⟨T, a, b', p', q', e1, e2, e3, e4, r1, r2⟩
      · subst e1
        exact ⟨G2, Rp.sub y.data r, Ext.refl, fr2.good⟩
      · subst e1 e3 e4
        have x : Ext F.sa G2 H2 (upd G2 T (.tup [a, b'])) (upd H2 T (.tup [a, b'])) := Ext.obj fr2.good.sub e2
        have sb : Sub G1 (upd G2 T (.tup [a, b'])) := fun b u hb => x.data b u (y.data b u hb)
        exact ⟨_, .tup (SqT.of upd_same) (.cons (Rp.sub sb r1) (.cons (Rp.sub sb r2) .nil)), x, fr2.good.obj e2⟩
    have fr3 := fr2.step x3 g3
    have y3 : Gr F G1 H1 G3 H2' := y.trans (Gr.ext fr2.good x3)
    unfold forL at q2
    split at q2
    · exact q2.elim
    · rename_i ρ' hb'
      refine gP_ok fr3 r3 hb' fun σ4 fr4 _ => ⟨G0, H0, ρ', S2, G3, β2, fr4, ?_⟩
      generalize ho : xSs cf F.B b ρ' S2 = o at q2
      have q3 := PostS.ext q2 (Gr.ext fr2.good x3)
      cases o with
      | nx ρ5 S5 => exact fun σ5 G5 H5 β5 fr5 y5 => ⟨ρ5, S5, G5, β5, fr5, y3.trans y5, PostS.ext q3 y5⟩
      | ct ρ5 S5 => exact fun σ5 G5 H5 β5 fr5 y5 => ⟨ρ5, S5, G5, β5, fr5, y3.trans y5, PostS.ext q3 y5⟩
      | bk ρ5 S5 => exact fun σ5 G5 H5 β5 fr5 y5 => q3 σ5 G5 H5 β5 fr5 y5
      | rt d5 S5 => exact q3
      | exc c5 ρ5 S5 => exact q3
      | bad => exact q3
  · rintro σ2 H2 ⟨ρ2, S2, G2, β2, fr2, y, q2⟩
    rw [List.drop_length] at q2
    exact q2 σ2 G2 H2 β2 fr2 .refl
theorem s_whl {m : Fuel} {b : List Sm} {sts : List Stmt} (po : PassesOwn (model X.prog X.w) X.A X.env X.xe) (h : PT X e (RdT F cf W x)) (hb : PSs X sts (RdSs F cf W b)) : PS X (.While e sts [] pos) (RdSm F cf W (.whl m x b)) := by
  refine PS_imp (ps_while po h hb) fun E σ H ⟨G0, H0, ρ, S, G, β, fr, q⟩ => ?_
  change PostS F W E G0 H0 G H (whlL (fun r T => eT cf F.B x r T) (fun r T => xSs cf F.B b r T) (fuelOf ρ m) ρ S) at q
  refine ⟨fun k σ H => ∃ ρ S G β, FR F G0 H0 ρ S σ G H β ∧ PostS F W E G0 H0 G H (whlL (fun r T => eT cf F.B x r T) (fun r T => xSs cf F.B b r T) k ρ S), ⟨_, ρ, S, G, β, fr, q⟩, ?_⟩
  rintro k σ2 H2 ⟨ρ2, S2, G2, β2, fr2, q2⟩
  cases k with
  | zero => exact q2.elim
  | succ k =>
    change PostS F W E G0 H0 G2 H2 ((eT cf F.B x ρ2 S2).out ρ2 fun b' S1 => if b' = true then
        match xSs cf F.B b ρ2 S1 with
        | .nx ρ2 S2 => whlL (fun r T => eT cf F.B x r T) (fun r T => xSs cf F.B b r T) k ρ2 S2
        | .ct ρ2 S2 => whlL (fun r T => eT cf F.B x r T) (fun r T => xSs cf F.B b r T) k ρ2 S2
        | .bk ρ2 S2 => .nx ρ2 S2
        | o => o
      else .nx ρ2 S1) at q2
    refine RdT.mk fr2 (PostS.out fr2 q2) fun b' S3 G3 H3 x3 fr3 k3 => ?_
    cases b' with
    | false =>
      refine (if_neg (by decide)).mpr ?_
      rw [if_neg (by decide)] at k3
      exact k3 _ _ _ _ fr3 .refl
    | true =>
      refine (if_pos rfl).mpr ?_
      rw [if_pos rfl] at k3
      refine ⟨fun σ H => ∃ ρ S G β, FR F G0 H0 ρ S σ G H β ∧ PostS F W E G0 H0 G H (whlL (fun r T => eT cf F.B x r T) (fun r T => xSs cf F.B b r T) k ρ S), fun σ' H' h' => ⟨k, Nat.lt_succ_self k, h'⟩, G0, H0, ρ2, S3, G3, β2, fr3, ?_⟩
      generalize ho : xSs cf F.B b ρ2 S3 = o at k3
      cases o with
      | nx ρ5 S5 => exact fun σ5 G5 H5 β5 fr5 y5 => ⟨ρ5, S5, G5, β5, fr5, PostS.ext k3 y5⟩
      | ct ρ5 S5 => exact fun σ5 G5 H5 β5 fr5 y5 => ⟨ρ5, S5, G5, β5, fr5, PostS.ext k3 y5⟩
      | bk ρ5 S5 => exact fun σ5 G5 H5 β5 fr5 y5 => k3 σ5 G5 H5 β5 fr5 y5
      | rt d5 S5 => exact k3
      | exc c5 ρ5 S5 => exact k3
      | bad => exact k3
end
end Cw

namespace Cw
open PySem PySem.Spec PyProof.Rows L2
def cname : Nat → Str
  | 0 => "UnfitChance"
  | _ => "TooWide"
/-- what the own exception classes say -/
structure ExcF (K : PySem.W.Frag) (mg : Str → Option Value) (ca : Nat → Addr) : Prop where
  nm : ∀ c, c < 2 → mg (cname c) = some (.ref (ca c))
  md : ∀ c, c < 2 → ∃ bmB B newId initId, ExcBaseFacts B newId initId bmB ∧ PySem.W.excIn K (ca c) bmB newId = true
  kp : ∀ c, c < 2 → PySem.W.keepIn K (.ref (ca c)) = true
  sb : ∀ c, c < 2 → PySem.W.subIn K (.ref (ca c)) (.type "BaseException") = some true
  ty : ∀ c, c < 2 → PySem.W.typeIn K (.ref (ca c)) = some (.type "type")
  ec : ∀ c, c < 2 → ExcC K (ca c)
  ve : ∀ c, c < 2 → PySem.W.kitOne K (.ref (ca c)) (.type "ValueError") = some true
  ex : ∀ c c', c < 2 → c' < 2 → PySem.W.exmOne K (.ref (ca c)) (.ref (ca c')) = some (decide (c = c'))
  vn : mg "ValueError" = none
  is : mg "isinstance" = none
structure CtxS (Γ : Gl0) (n : Nat) (F : Fx) (W : WX) (N : List Str) (sc : Scope) (X : Cx) : Prop where
  c : Ctx Γ n F W N sc sc X
  tk : Takes X W
  po : PassesOwn (model X.prog X.w) X.A X.env X.xe
  stk : X.stack = X.env :: X.outer
  frm : X.env.frame = some X.env.locals
  knd : sc.kind = .function
  exf : ExcF X.K X.mg F.ca
section
variable {Γ : Gl0} {n : Nat} {F : Fx} {W : WX} {cf : CallF} {N : List Str} {sc : Scope} {X : Cx} {e e2 e3 : Expr} {es : List Expr} {x y z : Ex} {xs : List Ex} {pos : Pos}
theorem s_rse (C : CtxS Γ n F W N sc X) {c : Nat} {u m : Str} {j : Nat} {p p2 p3 : Pos} (hc : c < 2) (hu : isG sc u = true) (hn : u = cname c) : PS X (.Raise (some (.Call (.Name u p) [.Constant (.str m) j p2] [] p3)) none pos) (RdSm F cf W (.rse c)) := by
  subst hn
  obtain ⟨g1, g2, _⟩ := C.c.glob hu
  obtain ⟨bmB, B, nw, ini, h1, h2⟩ := C.exf.md c hc
  refine PS_imp (ps_raise C.c.calm C.tk (pmk_own h1 h2 (C.exf.nm c hc) (C.exf.kp c hc) (raises_own (C.exf.sb c hc) (C.exf.ty c hc)) g1 g2)) fun E σ H ⟨G0, H0, ρ, S, G, β, fr, q⟩ => ?_
  exact q σ G H β fr .refl
theorem boot_ve : bootBuiltins ("ValueError" : Str) = some (.type "ValueError") := by decide +kernel
theorem Ctx.try (C : Ctx Γ n F W N sc sc X) {W' : WX} (pn : List (Addr × Obj)) (xe : Value → Shared → Prop) (tk : Takes (X.tr pn xe) W') : Ctx Γ n F W' N sc sc (X.tr pn xe) where
  hK := C.hK
  hN := C.hN
  nd := C.nd
  hs := C.hs
  raw := C.raw
  calm := C.calm
  room := C.room
  gua := C.gua
  pass := fun σ => passAt tk σ
  blt := C.blt
  glo := C.glo
  fn := C.fn
theorem CtxS.try (C : CtxS Γ n F W N sc X) {W' : WX} (pn : List (Addr × Obj)) (xe : Value → Shared → Prop) (tk : Takes (X.tr pn xe) W') (po : PassesOwn (model X.prog X.w) X.A X.env xe) : CtxS Γ n F W' N sc (X.tr pn xe) where
  c := C.c.try pn xe tk
  tk := tk
  po := po
  stk := C.stk
  frm := C.frm
  knd := C.knd
  exf := C.exf
theorem excNames (C : CtxS Γ n F W N sc X) {c : Nat} {u : Str} (hc : c < 2) (hu : isG sc u = true) (hn : u = cname c) : Names X u (.ref (F.ca c)) := by
  subst hn
  obtain ⟨g1, g2, _⟩ := C.c.glob hu
  exact ⟨g1, g2, .inl (C.exf.nm c hc)⟩
/-- isinstance(error, ValueError), within the suite -/
theorem e_isE (C : CtxS Γ n F W N sc X) {c i : Nat} {v : Str} {a : Addr} {oe : Obj} {pn : List (Addr × Obj)} {p p1 p2 p3 : Pos} (hc : c < 2) (hz : Zc (.ref (F.ca c)) none oe) (hf : ∃ vs, oe.data = .fields vs) (hv : isV N sc i v = true) (h1 : isG sc "isinstance" = true) (h2 : isG sc "ValueError" = true) :
    PE (X.suite a ((a, oe) :: pn)) (.Call (.Name "isinstance" p) [.Name v p1, .Name "ValueError" p2] [] p3) (fun σ H Q => σ[i]? = some (some (.ref a)) ∧ Q (.bl true) H) := by
  obtain ⟨g1, g2, g3⟩ := C.c.glob h1
  obtain ⟨k1, k2, k3⟩ := C.c.glob h2
  obtain ⟨v1, v2, v3, v4⟩ := C.c.vis hv
  have a1 : PE (X.suite a ((a, oe) :: pn)) (.Name v p1) (tVar i) := pe_var v1 v2 v3 v4
  have a2 : PE (X.suite a ((a, oe) :: pn)) (.Name "ValueError" p2) (tC (.ty "ValueError")) := pe_bltn k1 C.exf.vn boot_ve rfl k3 k2
  refine PE_imp (pe_callB (call_isE (C.exf.ec c hc) hz hf) g1 C.exf.is boot_isi (pa_cons a1 (pa_cons a2 pa_nil)) g3 g2) fun σ H Q ⟨h3, h4⟩ => ?_
  exact ⟨.ref a, h3, .ty "ValueError", .type "ValueError", true, rfl, fun u r => r, C.exf.ve c hc, h4⟩
/-- try: body, except X as error: if not isinstance(error, ValueError): return False -/
theorem s_tryA (C : CtxS Γ n F W N sc X) {c i : Nat} {u v : Str} {b : List Sm} {body : List Stmt} {np pos' q1 q2 q3 q4 q5 q6 : Pos} {r : List Stmt} (hc : c < 2) (hu : isG sc u = true) (hn : u = cname c) (hv : isV N sc i v = true) (hl : sc.names.lookup v = some .local) (h1 : isG sc "isinstance" = true) (h2 : isG sc "ValueError" = true)
    (hb : ∀ (W' : WX) (X' : Cx), CtxS Γ n F W' N sc X' → PSs X' body (RdSs F cf W' b)) :
    PS X (.Try body [.ExceptHandler (some (.Name u np)) (some v) [.If (.UnaryOp .Not (.Call (.Name "isinstance" q1) [.Name v q2, .Name "ValueError" q3] [] q4) q5) r [] q6] pos'] [] [] pos) (RdSm F cf W (.tryA b c i)) := by
  obtain ⟨v1, v2, v3, v4⟩ := C.c.vis hv
  let ts : Addr → Value → Option Addr → TS := fun a cls d E σ H => ∃ c', c' < 2 ∧ cls = .ref (F.ca c') ∧ d = none ∧ σ[i]? = some (some (.ref a)) ∧ E.nx σ H
  refine ⟨fun pins s σ H E I h => ?_⟩
  have il : i < σ.length := by
    rw [I.len]
    exact (List.getElem?_eq_some_iff.mp v1).1
  refine (ps_try_as (tb := fun W' => RdSs F cf W' b) (ts := ts) C.stk C.frm (by rw [C.c.hN]; exact C.c.nd) v1 (by unfold PySem.Env.kindOf; rw [C.c.hs]; exact hl) (excNames C hc hu hn) C.tk (fun W' pn xe tk po => hb W' _ (C.try pn xe tk po)) fun a oe cls d pn hz hf => ⟨fun pins s σ H E I ⟨c', hc', e1, e2, h3, h4⟩ => ?_⟩).run pins s σ H E I ?_
  · subst e1 e2
    have pe := e_isE (pn := pn) (p := q1) (p1 := q2) (p2 := q3) (p3 := q4) (a := a) C hc' hz hf hv h1 h2
    refine (pss_one (ps_if (pos := q6) (L2.pt_not (pt_val pe)) (pss_never (sts := r)) pss_nil)).run pins s σ H E I ⟨h3, true, rfl, ?_⟩
    exact (if_neg (by decide)).mpr h4
  · obtain ⟨G0, H0, ρ, S, G, β, fr, q⟩ := h
    refine ⟨G0, H0, ρ, S, G, β, fr, ?_⟩
    change PostS F W E G0 H0 G H (match xSs cf F.B b ρ S with
    | .exc c' ρ' S' => if c' == c then (if i < ρ'.length then .nx (ρ'.set i none) S' else .bad) else if Nat.blt c' 2 then .exc c' ρ' S' else .bad
    | o => o) at q
    generalize xSs cf F.B b ρ S = o at q
    cases o with
    | nx ρ5 S5 => exact q
    | ct ρ5 S5 => exact q
    | bk ρ5 S5 => exact q
    | rt d5 S5 => exact q
    | bad => exact q
    | exc c' ρ' S' =>
      intro σ' G' H' β' fr' y'
      change PostS F W E G0 H0 G H (if (c' == c) = true then (if i < ρ'.length then .nx (ρ'.set i none) S' else .bad) else if Nat.blt c' 2 = true then .exc c' ρ' S' else .bad) at q
      by_cases e : c' = c
      · subst e
        rw [if_pos (beq_self_eq_true _)] at q
        by_cases il' : i < ρ'.length
        · rw [if_pos il'] at q
          refine ⟨true, by rw [C.exf.ex c' c' hc hc]; simp, fun _ a ha => ⟨c', hc, rfl, rfl, List.getElem?_set_self (by rw [← fr'.len]; exact il'), ?_⟩, (fun z => by cases z)⟩
          show E.nx ((σ'.set i (some (.ref a))).set i none) H'
          rw [List.set_set]
          exact q _ G' H' β' (fr'.unset i) y'
        · rw [if_neg il'] at q
          exact q.elim
      · rw [if_neg (by simpa using e)] at q
        split at q
        · rename_i hc2
          have hc' : c' < 2 := Nat.blt_eq ▸ hc2
          refine ⟨false, by rw [C.exf.ex c' c hc' hc]; simp [e], (fun z => by cases z), fun _ => ?_⟩
          exact q σ' G' H' β' fr' y'
        · exact q.elim
end
end Cw

namespace Cw
open PySem PySem.Spec PyProof.Rows L2
/-- several clauses, each with a name; every suite returns -/
inductive HdR (X : Cx) : List ExceptHandler → List (Value × Nat × (Addr → Value → Option Addr → TS)) → Prop
  | nil : HdR X [] []
  | cons {cn nm : Str} {cv : Value} {j : Nat} {tq : Addr → Value → Option Addr → TS} {st0 : Stmt} {sts : List Stmt} {np pp : Pos} {hds : List ExceptHandler} {l : List (Value × Nat × (Addr → Value → Option Addr → TS))} (hc : Names X cn cv) (hj : X.N[j]? = some nm) (hk : X.env.kindOf nm = some .local)
      (hq : ∀ (a : Addr) (ob : Obj) (cls : Value) (d : Option Addr) (pn : List (Addr × Obj)), Zc cls d ob → (∃ vs, ob.data = .fields vs) → PSs (X.suite a ((a, ob) :: pn)) (st0 :: sts) (tq a cls d)) (r : HdR X hds l) :
      HdR X (.ExceptHandler (some (.Name cn np)) (some nm) (st0 :: sts) pp :: hds) ((cv, j, tq) :: l)
def wR (K : PySem.W.Frag) (Wo : WX) (E : Ends) : List (Value × Nat × (Addr → Value → Option Addr → TS)) → WX
  | [] => Wo
  | (cv, j, tq) :: r => fun cls d σ H => ∃ b, PySem.W.exmOne K cls cv = some b ∧ (b = true → ∀ a, H a = none → tq a cls d { nx := fun _ _ => False, rt := E.rt } (σ.set j (some (.ref a))) H) ∧ (b = false → wR K Wo E r cls d σ H)
section
variable {X : Cx} {body : List Stmt} {h1 : ExceptHandler} {hds : List ExceptHandler} {l : List (Value × Nat × (Addr → Value → Option Addr → TS))} {pos : Pos} {tb : WX → TS} {Wo : WX}
theorem try_ret (hst : X.stack = X.env :: X.outer) (hfm : X.env.frame = some X.env.locals) (hN : X.N.Nodup) (tk : Takes X Wo) (hbd : ∀ (W : WX) (pn : List (Addr × Obj)) (xe : Value → Shared → Prop), Takes (X.tr pn xe) W → PassesOwn (model X.prog X.w) X.A X.env xe → PSs (X.tr pn xe) body (tb W)) (hh : HdR X (h1 :: hds) l) :
    PS X (.Try body (h1 :: hds) [] [] pos) (fun E σ H => tb (wR X.K Wo E l) E σ H) := by
  constructor
  intro pins s σ H E I hyp
  have okX := I.ok
  have frs0 : X.A.frames = some (X.env :: X.outer) := by rw [okX.frames, hst]
  have bodyRun := (hbd (wR X.K Wo E l) (X.pn ++ pins) (fun e t1 => wpAny (model X.prog X.w) X.A (noteFrame e X.env) (fun _ t2 => wpAny (model X.prog X.w) X.A (setFlight e none) (fun _ t3 => wpAny (model X.prog X.w) X.A (handleBy e X.env (h1 :: hds)) (SP X pins E) X.xe t3) X.xe t2) X.xe t1) ?caught PassesOwn.looking).run [] s σ H E (I.toTry _) hyp
  · refine wpAny_Try_except (wpAny_mono bodyRun (fun f t hsp => ?_) fun _ _ q => q)
    cases f with
    | next => obtain ⟨σ', H', J', q⟩ := hsp; exact wpAny_execs_nil ⟨σ', H', J'.ofTry okX, q⟩
    | brk => obtain ⟨σ', H', J', q⟩ := hsp; exact ⟨σ', H', J'.ofTry okX, q⟩
    | cont => obtain ⟨σ', H', J', q⟩ := hsp; exact ⟨σ', H', J'.ofTry okX, q⟩
    | ret u => obtain ⟨v, σ', H', J', r, q⟩ := hsp; exact ⟨v, σ', H', J'.ofTry okX, r, q⟩
  · intro u t' hx
    obtain ⟨a, B, sI, pins', σ', H', cls, d, rfl, J', nb, up, sky, na, os, ag, wish⟩ := hx
    have J : Inv X pins σ' H' sI := J'.ofTry okX
    have skyE : Sky B (X.env :: X.outer) a (Zc cls d) X.env.locals t'.heap := by rw [← hst]; exact sky
    refine Sky.land Zc.steady frs0 hfm skyE fun h3 fl3 up3 => ?_
    have J3 : Inv X pins σ' H' { t' with heap := h3 } := J.landed nb fl3.1 (up.trans up3) os ag
    obtain ⟨ob3, vs3, at3, zc3, dt3⟩ := fl3.there
    have outF : a ∉ frs (X.env :: X.outer) := fun hm => by
      obtain ⟨_, o', e', hnf⟩ := fl3.2.2.1.mem hm
      rw [at3] at e'
      cases e'
      exact hnf _ dt3
    have nL : a ≠ X.env.locals := fun z => outF (List.mem_filterMap.mpr ⟨X.env, List.mem_cons_self, by rw [hfm, z]⟩)
    have nF : a ∉ X.fs := fun hm => by
      obtain ⟨e, he, q⟩ := List.mem_filterMap.mp hm
      exact outF (List.mem_filterMap.mpr ⟨e, List.mem_cons_of_mem _ he, q⟩)
    have S3 := J3.suite at3 dt3 na nL nF
    suffices go : ∀ {hs : List ExceptHandler} {m : List (Value × Nat × (Addr → Value → Option Addr → TS))}, HdR X hs m → wR X.K Wo E m cls d σ' H' → wpAny (model X.prog X.w) X.A (handleBy (.ref a) X.env hs) (SP X pins E) X.xe { t' with heap := h3 } from go hh wish
    intro hs m hk
    induction hk with
    | nil =>
      intro ww
      refine wpAny_handleBy_nil ?_
      obtain ⟨k1, k2, k3, ob, vs, T, oT, ts', he, hz, hd, hv1, hr⟩ := id fl3
      unfold PySem.passOn
      refine wpAny_bind (wpAny_field he hd hv1 ?_)
      rw [if_neg (show ¬ ((Value.ref T == Value.none) = true) from by simp)]
      have up' : wpAny (model X.prog X.w) X.A (setFlight (.ref a) X.env.frame) (fun _ t4 => wpAny (model X.prog X.w) X.A (throw (.ref a) : Sem Flow) (SP X pins E) X.xe t4) X.xe { t' with heap := h3 } := by
        rw [hfm]
        exact HandSPX.setFlight_upZ fl3 fun h4 hh4 up4 => wpAny_throw (tk _ _ ⟨a, B, sI, pins, σ', H', cls, d, rfl, J, nb, (up.trans up3).trans up4, .inr (.inr (by rw [hst]; exact hh4)), na, os, ag, ww⟩)
      first
        | exact wpAny_bind (wpAny_pure (wpAny_bind up'))
        | exact wpAny_bind up'
    | @cons cn nm cv j tq st0 sts np pp hds2 l2 hc hj hk hq r ih =>
      intro ww
      obtain ⟨b, hb1, yes, no⟩ := ww
      refine wpAny_handleBy_cons (codeAny_handlers_test ?_) (by intro q; cases q)
      have LT : PySem.W.Looks (model X.prog X.w) h3 (typeOf (.ref a)) cls := fun A' Q' E' s' k q => wpAny_typeOf_ref (k _ _ at3) (by rw [zc3.1]; exact q)
      have LM := PySem.W.exm_one (M := model X.prog X.w) J3.kIn LT hb1
      have named : ∀ {Q' : Value → Shared → Prop} {E' : Value → Shared → Prop}, Q' cv { t' with heap := h3 } → wpAny (model X.prog X.w) (X.A.mark (some (.ref a))) (eval (.Name cn np) X.env) Q' E' { t' with heap := h3 } := fun {Q' E'} q => by
        obtain ⟨hg, hdbg, hm | ⟨hm, hv, hnn⟩⟩ := hc
        · exact ld_glob (X := X.suite a ((a, ob3) :: (X.pn ++ pins))) S3 hg hm q hdbg
        · exact ld_blt (X := X.suite a ((a, ob3) :: (X.pn ++ pins))) S3 hg hm hv q hnn hdbg
      refine named (LM.here ?_)
      cases b with
      | false => exact ih (no rfl)
      | true =>
        refine codeAny_handlers_suite_as ?_
        refine HandSPX.lands_againZ fl3 fun h4 fl4 up4 => ?_
        have J4 : Inv X pins σ' H' { t' with heap := h4 } := J.landed nb fl4.1 ((up.trans up3).trans up4) os ag
        obtain ⟨ob4, vs4, at4, zc4, dt4⟩ := fl4.there
        have S4 := J4.suite at4 dt4 na nL nF
        refine store_ok (X := X.suite a ((a, ob4) :: (X.pn ++ pins))) (v := .ref a) S4 hN hj (.inl hk) rfl (fun s5 S5 => ?_) (.inr hk)
        refine wpAny_mono ((hq a ob4 cls d (X.pn ++ pins) zc4 ⟨_, dt4⟩).run [] s5 _ H' _ S5 (yes rfl a na)) (fun f s6 hsp => ?_) (fun _ _ z => False.elim z)
        cases f with
        | next => obtain ⟨_, _, _, q6⟩ := hsp; exact q6.elim
        | brk => obtain ⟨_, _, _, q6⟩ := hsp; exact q6.elim
        | cont => obtain ⟨_, _, _, q6⟩ := hsp; exact q6.elim
        | ret u =>
          obtain ⟨v6, σ6, H6, S6, r6, q6⟩ := hsp
          exact gone_ok (S6.unsuite okX) hN hj hk fun s7 J7 => ⟨_, _, _, J7, r6, q6⟩
end
section
variable {Γ : Gl0} {n : Nat} {F : Fx} {W : WX} {cf : CallF} {N : List Str} {sc : Scope} {X : Cx}
/-- return () if isinstance(error, ValueError) else None -/
theorem su_ret (C : CtxS Γ n F W N sc X) {i : Nat} {v : Str} {q1 q2 q3 q4 q5 q6 q7 : Pos} {k1 : Nat} {el : Expr} (hv : isV N sc i v = true) (h1 : isG sc "isinstance" = true) (h2 : isG sc "ValueError" = true) (a : Addr) (oe : Obj) (cls : Value) (d : Option Addr) (pn : List (Addr × Obj)) (hz : Zc cls d oe) (hf : ∃ vs, oe.data = .fields vs) :
    PSs (X.suite a ((a, oe) :: pn)) [.Return (some (.IfExp (.Call (.Name "isinstance" q1) [.Name v q2, .Name "ValueError" q3] [] q4) (.Tuple [] k1 q5) el q6)) q7]
      (fun E σ H => ∃ c', c' < 2 ∧ cls = .ref (F.ca c') ∧ d = none ∧ σ[i]? = some (some (.ref a)) ∧ ∀ p, H p = none → E.rt (.ref p) (upd H p (.tup []))) := by
  refine ⟨fun pins s σ H E I ⟨c', hc', e1, e2, h3, h4⟩ => ?_⟩
  subst e1 e2
  have pe := e_isE (pn := pn) (p := q1) (p1 := q2) (p2 := q3) (p3 := q4) (a := a) C hc' hz hf hv h1 h2
  refine (pss_one (ps_ret (pos := q7) (pe_ifExp (pos := q6) (b := el) (tb := fun _ _ _ => False) (pt_val pe) (pe_tup (x1 := k1) (pos := q5) pa_nil) ⟨fun _ _ _ _ _ _ h => h.elim⟩))).run pins s σ H E I ⟨h3, true, rfl, (if_pos rfl).mpr ⟨Nat.zero_le _, h4⟩⟩
theorem s_tryB (C : CtxS Γ n F W N sc X) {i : Nat} {u u2 v : Str} {b : List Sm} {body : List Stmt} {pos np np2 pp pp2 q1 q2 q3 q4 q5 q6 q7 r1 r2 r3 r4 r5 r6 r7 : Pos} {k1 k2 : Nat} {el el2 : Expr} (hu : isG sc u = true) (hn : u = cname 0) (hu2 : isG sc u2 = true) (hn2 : u2 = cname 1) (hv : isV N sc i v = true) (hl : sc.names.lookup v = some .local) (h1 : isG sc "isinstance" = true) (h2 : isG sc "ValueError" = true)
    (hb : ∀ (W' : WX) (X' : Cx), CtxS Γ n F W' N sc X' → PSs X' body (RdSs F cf W' b)) :
    PS X (.Try body [.ExceptHandler (some (.Name u np)) (some v) [.Return (some (.IfExp (.Call (.Name "isinstance" q1) [.Name v q2, .Name "ValueError" q3] [] q4) (.Tuple [] k1 q5) el q6)) q7] pp,
      .ExceptHandler (some (.Name u2 np2)) (some v) [.Return (some (.IfExp (.Call (.Name "isinstance" r1) [.Name v r2, .Name "ValueError" r3] [] r4) (.Tuple [] k2 r5) el2 r6)) r7] pp2] [] [] pos) (RdSm F cf W (.tryB b 0 1 i)) := by
  obtain ⟨v1, v2, v3, v4⟩ := C.c.vis hv
  have kd : X.env.kindOf v = some .local := by unfold PySem.Env.kindOf; rw [C.c.hs]; exact hl
  refine ⟨fun pins s σ H E I h => ?_⟩
  have il : i < σ.length := by
    rw [I.len]
    exact (List.getElem?_eq_some_iff.mp v1).1
  refine (try_ret (tb := fun W' => RdSs F cf W' b) C.stk C.frm (by rw [C.c.hN]; exact C.c.nd) C.tk (fun W' pn xe tk po => hb W' _ (C.try pn xe tk po))
    (.cons (excNames C (by decide) hu hn) v1 kd (fun a oe cls d pn hz hf => su_ret C hv h1 h2 a oe cls d pn hz hf) (.cons (excNames C (by decide) hu2 hn2) v1 kd (fun a oe cls d pn hz hf => su_ret C hv h1 h2 a oe cls d pn hz hf) .nil))).run pins s σ H E I ?_
  obtain ⟨G0, H0, ρ, S, G, β, fr, q⟩ := h
  refine ⟨G0, H0, ρ, S, G, β, fr, ?_⟩
  change PostS F W E G0 H0 G H (match xSs cf F.B b ρ S with
    | .exc c' ρ' S' => if (c' == 0 || c' == 1) = true then (if i < ρ'.length then .rt (.tuple []) S' else .bad) else .bad
    | o => o) at q
  generalize xSs cf F.B b ρ S = o at q
  cases o with
  | nx ρ5 S5 => exact q
  | ct ρ5 S5 => exact q
  | bk ρ5 S5 => exact q
  | rt d5 S5 => exact q
  | bad => exact q
  | exc c' ρ' S' =>
    intro σ' G' H' β' fr' y'
    change PostS F W E G0 H0 G H (if (c' == 0 || c' == 1) = true then (if i < ρ'.length then .rt (.tuple []) S' else .bad) else .bad) at q
    by_cases e : (c' == 0 || c' == 1) = true
    · rw [if_pos e] at q
      by_cases il' : i < ρ'.length
      · rw [if_pos il'] at q
        have hc' : c' < 2 := by
          rw [Bool.or_eq_true] at e
          rcases e with e | e
          · have := eq_of_beq e; omega
          · have := eq_of_beq e; omega
        have fin : ∀ a, H' a = none → ∃ c'', c'' < 2 ∧ Value.ref (F.ca c') = .ref (F.ca c'') ∧ (none : Option Addr) = none ∧ (σ'.set i (some (V.ref a)))[i]? = some (some (V.ref a)) ∧ ∀ p, H' p = none → E.rt (.ref p) (upd H' p (.tup [])) := fun a _ =>
          ⟨c', hc', rfl, rfl, List.getElem?_set_self (by rw [← fr'.len]; exact il'), fun p hp => q _ _ _ (fr'.ext.trans (Ext.obj fr'.good.sub hp)) (fr'.good.obj hp) (.tup (SqT.of upd_same) .nil)⟩
        by_cases e0 : c' = 0
        · subst e0
          exact ⟨true, C.exf.ex 0 0 hc' (by decide), fun _ => fin, fun z => by cases z⟩
        · have e1 : c' = 1 := by omega
          subst e1
          exact ⟨false, C.exf.ex 1 0 hc' (by decide), (fun z => by cases z), fun _ => ⟨true, C.exf.ex 1 1 hc' (by decide), fun _ => fin, fun z => by cases z⟩⟩
      · rw [if_neg il'] at q
        exact q.elim
    · rw [if_neg e] at q
      exact q.elim
end
end Cw

namespace Cw
open PySem PySem.Spec PyProof.Rows L2
def isF : Ex → Bool
  | .lst _ => true
  | .lc _ _ _ _ _ => true
  | .lc2 _ _ _ _ _ _ _ _ _ => true
  | .blt .list [_] => true
  | _ => false
section
variable {Γ : Gl0} {n : Nat} {F : Fx} {W : WX} {N : List Str} {raw sc : Scope} {X : Cx} {e e2 : Expr} {es : List Expr} {pos : Pos}
/-- does a store swap with the list of a comprehension -/
def swB (elt : Expr) (scope : Scope) (u : Str) (p pos : Pos) (env : PySem.Env) : Bool := env.blockKind == .function && env.kindOf u == some .local && p.line == pos.line && !(scope.names.any fun (n, k) => n == u && (k == .local || k == .cell))
theorem sw_eq {elt : Expr} {gs : List Comprehension} {scope : Scope} {u : Str} {p pos : Pos} {l : Nat} {env : PySem.Env} : swapsWith (.ListComp elt gs scope pos) (some (.Name u p)) l env = pure (swB elt scope u p pos env) := rfl
theorem psf_of {i : Nat} {u : Str} {p : Pos} {elt : Expr} {gs : List Comprehension} {scope : Scope} {lp : Pos} {x : Ex} {t : TE} {cf : CallF} (C : Ctx Γ n F W N raw sc X) (hi : isL N raw i u = true) (hp : PE X (.ListComp elt gs scope lp) t) (hr : ∀ σ H Q, RdF F cf W x σ H Q → t σ H Q)
    (h : X.env.scope.names.lookup u = some .local → swapsWith (.ListComp elt gs scope lp) (some (.Name u p)) pos.line X.env = pure true → PS X (.Assign [.Name u p] (.ListComp elt gs scope lp) pos) (tAsg t (gName i))) : PSF X F cf W u p (.ListComp elt gs scope lp) pos i x := by
  cases hb : swB elt scope u p lp X.env with
  | false => exact psf_plain C hi (PE_imp hp hr) fun l => by rw [sw_eq, hb]
  | true =>
    have hl : X.env.scope.names.lookup u = some .local := by
      unfold swB at hb
      simp only [Bool.and_eq_true] at hb
      have h1 := hb.1.1.2
      unfold PySem.Env.kindOf at h1
      exact eq_of_beq h1
    exact PS_imp (h hl (by rw [sw_eq, hb])) fun E σ H q => hr σ H _ q
theorem k_listF (C : Ctx Γ n F W N raw sc X) {u : Str} {p : Pos} {x : Ex} {cf : CallF} (hu : isG sc u = true) (hn : u = bname .list) (h : PE X e (RdE F cf W x)) (se : Shape e) : PE X (.Call (.Name u p) [e] [] pos) (RdF F cf W (.blt .list [x])) := by
  subst hn
  obtain ⟨g1, g2, g3⟩ := C.glob hu
  have st1 : starEach [e] X.env = [(false, eval e X.env)] := se.star [] X.env
  refine PE_imp (pe_callTy call_list_of g1 (C.blt _ (bname_mem .list)) (boot_blt .list) (pa_cons h pa_nil st1) g3 g2 st1 rfl) fun σ H Q ⟨G0, H0, ρ, S, G, β, fr, post⟩ => ?_
  change Post F W σ G H (((eE cf F.B x ρ S).bind fun v S1 => Res.ok [v] S1).bind fun vs S1 => Res.of (bltE F.B S1 .list vs) S1) _ at post
  rw [Res.assoc] at post
  refine RdE.mk fr (Post.bind post) fun v S1 G1 H1 w x1 fr1 vr p1 => ?_
  change Post F W σ G1 H1 (Res.of (bltE F.B S1 .list [v]) S1) _ at p1
  have key : ∃ (a : Addr) (ys : List V) (ds : List PyData), w = .ref a ∧ (SqL X.K H1 a ys ∨ SqT X.K H1 a ys) ∧ RpAll F.K G1 ys ds ∧ bltE F.B S1 .list [v] = some (.dat (.list ds)) := by
    have sq : ∀ {o : Option (List PyData)}, seqOf F.B v = o → bltE F.B S1 .list [v] = o.map (fun ys => EV.dat (.list ys)) → ∃ (a : Addr) (ys : List V) (ds : List PyData), w = .ref a ∧ (SqL X.K H1 a ys ∨ SqT X.K H1 a ys) ∧ RpAll F.K G1 ys ds ∧ bltE F.B S1 .list [v] = some (.dat (.list ds)) := fun {o} ho hb => by
      cases o with
      | none => rw [hb] at p1; exact p1.elim
      | some ds =>
        obtain ⟨a, ys, e1, h1, h2⟩ := seq_at fr1.good ho vr
        refine ⟨a, ys, ds, e1, ?_, h2, hb⟩
        rw [C.hK]
        rcases h1 with h1 | h1
        · exact .inl (SqL.of h1)
        · exact .inr h1
    cases v with
    | scr ns =>
      obtain ⟨a, e1, h1⟩ := vr
      exact ⟨a, _, _, e1, .inl (by rw [C.hK]; exact sqL_sub fr1.good.sub h1), RpAll.ints ns, rfl⟩
    | _ => exact sq rfl rfl
  obtain ⟨a, ys, ds, e1, h1, h2, h3⟩ := key
  rw [h3] at p1
  refine ⟨a, ys, by rw [e1], h1, fun l hl => ?_⟩
  obtain ⟨ds', e2, q⟩ := p1 G1 (upd H1 l (.lst ys)) (Ext.tmp hl) (fr1.good.tmp hl)
  cases e2
  exact q l ys (none_of_ext x1 hl) (none_of_sub fr1.good.sub hl) upd_same h2
theorem sndF (C : Ctx Γ n F W N raw sc X) {i : Nat} {u : Str} {p : Pos} {x : Ex} (hi : isL N raw i u = true) (hf : isF x = true) (h : mE Γ N x sc e = true) : PSF X F (run Γ.Δ n) W u p e pos i x := by
  cases x with
  | lst xs =>
    unfold mE at h
    split at h
    · exact psf_plain C hi (k_lst (sndEs xs C h)) fun _ => rfl
    · cases h
  | lc own q s cs x =>
    unfold mE at h
    split at h
    · rename_i elt tg iter ifs scope lp
      simp only [Bool.and_eq_true, decide_eq_true_eq] at h
      obtain ⟨⟨⟨⟨⟨⟨⟨h1, h2⟩, h3⟩, h4⟩, h5⟩, h6⟩, h7⟩, h8⟩ := h
      have hN : X.N.Nodup := by rw [C.hN]; exact C.nd
      have pi := sndS (Γ := Γ) (n := n) (F := F) (N := N) s (tg := tg) false C h5
      have bk : BlkOk X.N X.env.scope scope (ownP N own) := blkOk_by (by rw [C.hN, C.hs]; exact h1)
      have a1 := fun s' H' A cl fp => pg_pat (C.blk s' H' scope cl A fp) h4
      have a2 := fun s' H' A cl fp => sndC cs (C.blk s' H' scope cl A fp) h7 h6
      have a3 := fun s' H' A cl fp => (sndE x (C.blk s' H' scope cl A fp) h8).pe
      have a4 := fun v => mS_fold h5 X.env v
      obtain ⟨g1, _, _⟩ := C.loc hi
      exact psf_of C hi (pe_lc (pos := lp) C.calm hN pi bk a1 a2 a3 a4) (fun σ H Q q => by rw [h2]; exact lc_read (all_mem h3) q) fun hl hw => ps_setLc C.calm hN g1 hl hw pi bk a1 a2 a3 a4
    · cases h
  | lc2 own own1 q s cs q1 s1 cs1 x =>
    unfold mE at h
    split at h
    · rename_i elt tg iter ifs tg1 iter1 ifs1 scope lp
      simp only [Bool.and_eq_true, decide_eq_true_eq] at h
      obtain ⟨⟨⟨⟨⟨⟨⟨⟨⟨⟨⟨⟨⟨h1, h2⟩, h3⟩, h4⟩, h5⟩, h6⟩, h7⟩, h8⟩, h9⟩, h10⟩, h11⟩, h12⟩, h13⟩, h14⟩ := h
      have hN : X.N.Nodup := by rw [C.hN]; exact C.nd
      have pi := sndS (Γ := Γ) (n := n) (F := F) (N := N) s (tg := tg) false C h7
      have bk : BlkOk X.N X.env.scope scope (ownP N own) := blkOk_by (by rw [C.hN, C.hs]; exact h1)
      have a0 : ∀ i ∈ own1, i ∈ (ownP N own).map (·.2) := by rw [h2]; exact all_mem h3
      have a1 := fun s' H' A cl fp => pg_pat (C.blk s' H' scope cl A fp) h6
      have a2 := fun s' H' A cl fp => sndC cs (C.blk s' H' scope cl A fp) h9 h8
      have a3 := fun s' H' A cl fp => (sndE x (C.blk s' H' scope cl A fp) h14).pe
      have a4 := fun v => mS_fold h7 X.env v
      have b1 := fun s' H' A cl fp => sndS s1 (tg := tg1) true (C.blk s' H' scope cl A fp) h11
      have b2 := fun s' H' A cl fp => pg_pat (C.blk s' H' scope cl A fp) h10
      have b3 := fun s' H' A cl fp => sndC cs1 (C.blk s' H' scope cl A fp) h13 h12
      have b4 := fun env v => mS_fold h11 env v
      obtain ⟨g1, _, _⟩ := C.loc hi
      exact psf_of C hi (pe_lc2 (pos := lp) C.calm hN pi bk a0 a1 a2 b1 b2 b3 a3 a4 b4) (fun σ H Q q => by rw [h2]; exact lc2_read (all_mem h4) (all_mem h5) q) fun hl hw => ps_setLc2 C.calm hN g1 hl hw pi bk a0 a1 a2 b1 b2 b3 a3 a4 b4
    · cases h
  | blt f es =>
    cases f with
    | list =>
      unfold mE at h
      split at h
      · rename_i u' p' xs p2
        simp only [Bool.and_eq_true] at h
        obtain ⟨⟨⟨h1, h2⟩, h3⟩, h4⟩ := h
        match es, xs, h4 with
        | [a], [y], h4 =>
          have h' : mE Γ N a sc y = true := by simpa [mEs] using h4
          exact psf_plain C hi (k_listF C h1 (by simpa using h2) (sndE a C h').pe (mE_shape h')) fun _ => rfl
        | [], _, _ => cases h3
        | _ :: _, [], h4 => cases h4
        | [_], _ :: _ :: _, h4 => revert h4; simp [mEs]
        | a :: b :: as, y :: ys, h4 => cases hf
      · cases h
    | _ => cases hf
  | _ => cases hf
end
end Cw

namespace Cw
open PySem PySem.Spec PyProof.Rows L2
def isLoc (sc : Scope) (u : Str) : Bool := match sc.names.lookup u with
  | some .local => true
  | _ => false
/-- no stores from the right -/
def swNo (sc : Scope) (es : List Expr) (e : Expr) : Bool := match es, e with
  | [.Name a _, .Name b _], .Tuple vs _ _ => vs.all (foldedForSure 8) || !isLoc sc a || !isLoc sc b
  | _, .Tuple _ _ _ => false
  | _, _ => true
def suA (N : List Str) (sc : Scope) (i : Nat) (v : Str) (su : List Stmt) : Bool := match su with
  | [.If (.UnaryOp .Not (.Call (.Name f _) [.Name v' _, .Name t _] [] _) _) _ [] _] => f == ("isinstance" : Str) && t == ("ValueError" : Str) && decide (v = v') && isG sc f && isG sc t && isV N sc i v && isLoc sc v
  | _ => false
def suB (N : List Str) (sc : Scope) (i : Nat) (v : Str) (su : List Stmt) : Bool := match su with
  | [.Return (some (.IfExp (.Call (.Name f _) [.Name v' _, .Name t _] [] _) (.Tuple [] _ _) _ _)) _] => f == ("isinstance" : Str) && t == ("ValueError" : Str) && decide (v = v') && isG sc f && isG sc t && isV N sc i v && isLoc sc v
  | _ => false
mutual
def mSm (Γ : Gl0) (N : List Str) (sc : Scope) : Sm → Stmt → Bool
  | .ex x, st => match st with
    | .Expr e _ => noLc e && mE Γ N x sc e
    | _ => false
  | .set i x, st => match st with
    | .Assign [.Name u _] e _ => isL N sc i u && mE Γ N x sc e && (noLc e || isF x)
    | _ => false
  | .own i x, st => match st with
    | .Assign [.Name u _] e _ => isL N sc i u && mE Γ N x sc e && isF x
    | _ => false
  | .frz _, _ => false
  | .par2 i j a b, st => match st with
    | .Assign [.Tuple [.Name u pu, .Name v pv] _ _] (.Tuple [e, e2] _ _) _ => isL N sc i u && isL N sc j v && isLoc sc u && isLoc sc v && decide (i ≠ j) && decide (u ≠ v) && (pu.line == pv.line) && mE Γ N a sc e && mE Γ N b sc e2 &&
        !(foldedForSure 8 e && foldedForSure 8 e2) && !(constantsAlone 8 e && constantsAlone 8 e2)
    | _ => false
  | .unp ps x, st => match st with
    | .Assign [.Tuple es _ _] e _ => mPs N sc ps es && mE Γ N x sc e && swNo sc es e
    | _ => false
  | .sit i k x, st => match st with
    | .Assign [.Subscript (.Name u _) e2 _] e _ => isV N sc i u && mE Γ N x sc e && mE Γ N k sc e2
    | _ => false
  | .augs i k x, st => match st with
    | .AugAssign (.Subscript (.Name u _) (.Constant (.int c) _ _) _) .Add e _ => isV N sc i u && decide (c = (k : Nat)) && mE Γ N x sc e
    | _ => false
  | .aug i x, st => match st with
    | .AugAssign (.Name u _) .Add e _ => isL N sc i u && mE Γ N x sc e
    | _ => false
  | .app i x, st => match st with
    | .Expr (.Call (.Attribute (.Name u _) m apos) [e] [] cpos) _ => isV N sc i u && m == ("append" : Str) && (apos.endLine == cpos.line) && mE Γ N x sc e
    | _ => false
  | .ite c a b, st => match st with
    | .If t sa sb _ => mE Γ N c sc t && mSs Γ N sc a sa && mSs Γ N sc b sb
    | _ => false
  | .for p s b, st => match st with
    | .For tg it sts [] _ => mP N sc p tg && mS Γ N s sc it && mSs Γ N sc b sts
    | _ => false
  | .whl m c b, st => match st with
    | .While t sts [] _ => mE Γ N c sc t && mSs Γ N sc b sts
    | _ => false
  | .ret x, st => match st with
    | .Return (some e) _ => mE Γ N x sc e
    | _ => false
  | .rse c, st => match st with
    | .Raise (some (.Call (.Name u _) [.Constant (.str _) _ _] [] _)) none _ => isG sc u && u == cname c && decide (c < 2)
    | _ => false
  | .brk, st => match st with
    | .Break _ => true
    | _ => false
  | .cnt, st => match st with
    | .Continue _ => true
    | _ => false
  | .tryA b c i, st => match st with
    | .Try body [.ExceptHandler (some (.Name u _)) (some v) su _] [] [] _ => isG sc u && u == cname c && decide (c < 2) && suA N sc i v su && mSs Γ N sc b body
    | _ => false
  | .tryB b c1 c2 i, st => match st with
    | .Try body [.ExceptHandler (some (.Name u _)) (some v) su _, .ExceptHandler (some (.Name u2 _)) (some v2) su2 _] [] [] _ => isG sc u && u == cname 0 && isG sc u2 && u2 == cname 1 && decide (c1 = 0) && decide (c2 = 1) && decide (v = v2) && suB N sc i v su && suB N sc i v2 su2 && mSs Γ N sc b body
    | _ => false
def mSs (Γ : Gl0) (N : List Str) (sc : Scope) : List Sm → List Stmt → Bool
  | [], sts => match sts with
    | [] => true
    | _ => false
  | .frz _ :: r, sts => mSs Γ N sc r sts
  | s :: r, sts => match sts with
    | st :: sts => mSm Γ N sc s st && mSs Γ N sc r sts
    | _ => false
end
section
variable {Γ : Gl0} {n : Nat} {F : Fx} {N : List Str} {sc : Scope}
theorem isLoc_eq {u : Str} (h : isLoc sc u = true) : sc.names.lookup u = some .local := by
  unfold isLoc at h
  split at h
  · assumption
  · cases h
theorem mE_noLc {x : Ex} {e : Expr} (h : mE Γ N x sc e = true) (hf : isF x = false) : noLc e = true := by
  cases e with
  | ListComp a b c d =>
    cases x <;> first | (cases h; done) | (cases hf; done) | skip
    all_goals first
      | (rename_i d; cases d <;> cases h; done)
      | (rename_i m a es; cases m; cases a <;> first | (cases h; done) | (rename_i d; cases d <;> cases h; done))
  | SetComp a b c d =>
    cases x <;> first | (cases h; done) | (cases hf; done) | skip
    all_goals first
      | (rename_i d; cases d <;> cases h; done)
      | (rename_i m a es; cases m; cases a <;> first | (cases h; done) | (rename_i d; cases d <;> cases h; done))
  | DictComp a b c d e =>
    cases x <;> first | (cases h; done) | (cases hf; done) | skip
    all_goals first
      | (rename_i d; cases d <;> cases h; done)
      | (rename_i m a es; cases m; cases a <;> first | (cases h; done) | (rename_i d; cases d <;> cases h; done))
  | _ => rfl
theorem isLoc_kind {X : Cx} (hs : X.env.scope = sc) (u : Str) : (X.env.kindOf u == some .local) = isLoc sc u := by
  unfold PySem.Env.kindOf isLoc
  rw [hs]
  split
  · rename_i h
    rw [h]
    rfl
  · rename_i h
    cases hk : sc.names.lookup u with
    | none => rfl
    | some k => cases k <;> first | rfl | exact absurd hk h
theorem sw_none {X : Cx} {es : List Expr} {e : Expr} {k : Nat} {p : Pos} (hs : X.env.scope = sc) (h : swNo sc es e = true) : swappedStores [.Tuple es k p] e X.env = pure none := by
  cases e with
  | Tuple vs k2 p2 =>
    unfold swNo at h
    split at h
    · rename_i a pa b pb vs' k3 p3 he
      cases he
      unfold swappedStores
      dsimp only
      split
      · rfl
      · split
        · rfl
        · split
          · rfl
          · rename_i h1 h2 h3
            split
            · rfl
            · rename_i h4
              exfalso
              simp only [Bool.or_eq_true, Bool.not_eq_true'] at h
              rcases h with (h | h) | h
              · exact h4 h
              · apply h3
                by_cases hl : pb.line = (Expr.Name a pa).pos.line <;> cases hb : isLoc sc b <;> simp [isLoc_kind hs, h, hb, hl]
              · apply h3
                by_cases hl : pa.line = (Expr.Name a pa).pos.line <;> cases hb : isLoc sc a <;> simp [isLoc_kind hs, h, hb, hl]
    · cases h
    · rename_i h1 h2
      first
        | exact (h1 _ _ _ rfl).elim
        | exact (h2 _ _ _ rfl).elim
  | _ => rfl
theorem sw_two {X : Cx} {u v : Str} {e e2 : Expr} {pu pv pt p2 : Pos} {kt k2 : Nat} (hs : X.env.scope = sc) (hk : sc.kind = .function) (hu : isLoc sc u = true) (hv : isLoc sc v = true) (hn : u ≠ v) (hl : (pu.line == pv.line) = true) (h1 : (foldedForSure 8 e && foldedForSure 8 e2) = false) (h2 : (constantsAlone 8 e && constantsAlone 8 e2) = false)
    (s1 : ∀ a p, e ≠ .Starred a p) (s2 : ∀ a p, e2 ≠ .Starred a p) : swappedStores [.Tuple [.Name u pu, .Name v pv] kt pt] (.Tuple [e, e2] k2 p2) X.env = pure (some [u, v]) := by
  have hb : X.env.blockKind = .function := by unfold PySem.Env.blockKind; rw [hs, hk]; rfl
  have hl' : pv.line = (Expr.Name u pu).pos.line := (eq_of_beq hl).symm
  have hl0 : pu.line = (Expr.Name u pu).pos.line := rfl
  have n1 : ∀ {e : Expr}, (∀ a p, e ≠ .Starred a p) → (match e with
      | .Starred .. => true
      | _ => false) = false := fun {e} h => by
    cases e <;> first | rfl | exact absurd rfl (h _ _)
  unfold swappedStores
  dsimp only
  rw [hb]
  have hvu : (v == u) = false := by
    simp only [beq_eq_false_iff_ne]
    exact fun e => hn e.symm
  have huv : (u == v) = false := by
    simp only [beq_eq_false_iff_ne]
    exact hn
  have ed : [u, v].eraseDups.length = 2 := by
    simp [List.eraseDups_cons, hvu]
    done
  have hf : ¬(foldedForSure 8 e = true ∧ foldedForSure 8 e2 = true) := fun z => by rw [z.1, z.2] at h1; cases h1
  have hc : ¬(constantsAlone 8 e = true ∧ constantsAlone 8 e2 = true) := fun z => by rw [z.1, z.2] at h2; cases h2
  have m1 := n1 s1
  have m2 := n1 s2
  simp [isLoc_kind hs, ed, hf, hc, hu, hv, hl', hl0]
end
end Cw

namespace Cw
open PySem PySem.Spec PyProof.Rows L2
section
variable {Γ : Gl0} {n : Nat} {F : Fx} {N : List Str} {sc : Scope}
theorem mE_nostar {x : Ex} {sc : Scope} {e : Expr} (h : mE Γ N x sc e = true) : ∀ a p, e ≠ .Starred a p := fun a p he => by
  rw [he, mE_star] at h
  cases h
theorem pss_frz {X : Cx} {W : WX} {cf : CallF} {i : Nat} {r : List Sm} {sts : List Stmt} (h : PSs X sts (RdSs F cf W r)) : PSs X sts (RdSs F cf W (.frz i :: r)) := by
  refine PSs_imp h fun E σ H ⟨G0, H0, ρ, S, G, β, fr, q⟩ => ?_
  change PostS F W E G0 H0 G H (((Res.of ((slotE ρ i).bind frzE) S).out ρ fun w S1 => .nx (ρ.set i (some w)) S1).seq fun ρ1 S1 => xSs cf F.B r ρ1 S1) at q
  cases hs : slotE ρ i with
  | none => rw [hs] at q; exact q.elim
  | some v =>
    rw [hs] at q
    cases v with
    | own xs =>
      obtain ⟨G', y, fr'⟩ := fr.frz (slotE_some hs)
      exact ⟨G0, H0, _, S, G', _, fr', PostS.ext (o := xSs cf F.B r (ρ.set i (some (.dat (.list xs)))) S) q y⟩
    | _ => exact q.elim
mutual
theorem sndSm : ∀ (s : Sm) {W : WX} {X : Cx} {st : Stmt}, CtxS Γ n F W N sc X → mSm Γ N sc s st = true → PS X st (RdSm F (run Γ.Δ n) W s)
  | .ex x, W, X, st, C, h => by
    unfold mSm at h
    split at h
    · simp only [Bool.and_eq_true] at h
      exact s_ex (sndE x C.c h.2).pe h.1
    · cases h
  | .set i x, W, X, st, C, h => by
    unfold mSm at h
    split at h
    · simp only [Bool.and_eq_true, Bool.or_eq_true] at h
      obtain ⟨⟨h1, h2⟩, h3⟩ := h
      rename_i u0 p0 e0 pos0
      by_cases hn : noLc e0 = true
      · exact s_set C.c h1 (sndE x C.c h2).pe hn
      · have hf : isF x = true := by
          rcases h3 with h3 | h3
          · exact absurd h3 hn
          · exact h3
        refine s_setF ?_ (sndF C.c h1 hf h2)
        cases x with
        | lst _ => exact lsty_lst
        | lc _ _ _ _ _ => exact lsty_lc
        | lc2 _ _ _ _ _ _ _ _ _ => exact lsty_lc2
        | blt f es =>
          exfalso
          apply hn
          unfold mE at h2
          split at h2
          · rfl
          · cases h2
        | _ => cases hf
    · cases h
  | .own i x, W, X, st, C, h => by
    unfold mSm at h
    split at h
    · simp only [Bool.and_eq_true] at h
      obtain ⟨⟨h1, h2⟩, h3⟩ := h
      refine s_own (fun {σ pins H s} I => ?_) (sndF C.c h1 h3 h2)
      rw [I.len]
      exact (List.getElem?_eq_some_iff.mp (C.c.loc h1).1).1
    · cases h
  | .frz i, W, X, st, C, h => by cases h
  | .par2 i j a b, W, X, st, C, h => by
    unfold mSm at h
    split at h
    · simp only [Bool.and_eq_true, decide_eq_true_eq, Bool.not_eq_true'] at h
      obtain ⟨⟨⟨⟨⟨⟨⟨⟨⟨⟨h1, h2⟩, h3⟩, h4⟩, h5⟩, h6⟩, h7⟩, h8⟩, h9⟩, h10⟩, h11⟩ := h
      refine s_par2 C.c h1 h2 h5 (by rw [C.c.hs]; exact isLoc_eq h3) (by rw [C.c.hs]; exact isLoc_eq h4) (sndE a C.c h8).pe (sndE b C.c h9).pe (mE_shape h8) (mE_shape h9) (sw_two C.c.hs C.knd h3 h4 h6 h7 ?_ ?_ (mE_nostar h8) (mE_nostar h9))
      · exact h10
      · exact h11
    · cases h
  | .unp ps x, W, X, st, C, h => by
    unfold mSm at h
    split at h
    · simp only [Bool.and_eq_true] at h
      obtain ⟨⟨h1, h2⟩, h3⟩ := h
      exact s_unp C.c h1 (sndE x C.c h2).pe (sw_none C.c.hs h3)
    · cases h
  | .sit i k x, W, X, st, C, h => by
    unfold mSm at h
    split at h
    · simp only [Bool.and_eq_true] at h
      obtain ⟨⟨h1, h2⟩, h3⟩ := h
      exact s_sit C.c h1 (sndE x C.c h2).pe (sndE k C.c h3).pe (mE_nosl h3)
    · cases h
  | .augs i k x, W, X, st, C, h => by
    unfold mSm at h
    split at h
    · simp only [Bool.and_eq_true, decide_eq_true_eq] at h
      obtain ⟨⟨h1, h2⟩, h3⟩ := h
      subst h2
      exact s_augs C.c h1 (sndE x C.c h3).pe
    · cases h
  | .aug i x, W, X, st, C, h => by
    unfold mSm at h
    split at h
    · simp only [Bool.and_eq_true] at h
      exact s_aug C.c h.1 (sndE x C.c h.2).pe
    · cases h
  | .app i x, W, X, st, C, h => by
    unfold mSm at h
    split at h
    · simp only [Bool.and_eq_true] at h
      obtain ⟨⟨⟨h1, h2⟩, h3⟩, h4⟩ := h
      have e1 := eq_of_beq h2
      subst e1
      exact s_app C.c h1 (sndE x C.c h4).pe (mE_shape h4) h3
    · cases h
  | .ite c a b, W, X, st, C, h => by
    unfold mSm at h
    split at h
    · simp only [Bool.and_eq_true] at h
      obtain ⟨⟨h1, h2⟩, h3⟩ := h
      exact s_ite (sndE c C.c h1).pt (sndSs a C h2) (sndSs b C h3)
    · cases h
  | .for p s b, W, X, st, C, h => by
    unfold mSm at h
    split at h
    · simp only [Bool.and_eq_true] at h
      obtain ⟨⟨h1, h2⟩, h3⟩ := h
      exact s_for C.c C.po h1 (sndS s true C.c h2) (sndSs b C h3) fun v => mS_fold h2 X.env v
    · cases h
  | .whl m c b, W, X, st, C, h => by
    unfold mSm at h
    split at h
    · simp only [Bool.and_eq_true] at h
      exact s_whl C.po (sndE c C.c h.1).pt (sndSs b C h.2)
    · cases h
  | .ret x, W, X, st, C, h => by
    unfold mSm at h
    split at h
    · exact s_ret (sndE x C.c h).pe
    · cases h
  | .rse c, W, X, st, C, h => by
    unfold mSm at h
    split at h
    · simp only [Bool.and_eq_true, decide_eq_true_eq] at h
      obtain ⟨⟨h1, h2⟩, h3⟩ := h
      exact s_rse C h3 h1 (eq_of_beq h2)
    · cases h
  | .brk, W, X, st, C, h => by
    unfold mSm at h
    split at h
    · exact s_brk
    · cases h
  | .cnt, W, X, st, C, h => by
    unfold mSm at h
    split at h
    · exact s_cnt
    · cases h
  | .tryA b c i, W, X, st, C, h => by
    unfold mSm at h
    split at h
    · simp only [Bool.and_eq_true, decide_eq_true_eq] at h
      obtain ⟨⟨⟨⟨h1, h2⟩, h3⟩, h4⟩, h5⟩ := h
      unfold suA at h4
      split at h4
      · simp only [Bool.and_eq_true, decide_eq_true_eq] at h4
        obtain ⟨⟨⟨⟨⟨⟨k1, k2⟩, k3⟩, k4⟩, k5⟩, k6⟩, k7⟩ := h4
        have e1 := eq_of_beq k1
        have e2 := eq_of_beq k2
        subst e1 e2 k3
        exact s_tryA C h3 h1 (eq_of_beq h2) k6 (isLoc_eq k7) k4 k5 fun W' X' C' => sndSs b C' h5
      · cases h4
    · cases h
  | .tryB b c1 c2 i, W, X, st, C, h => by
    unfold mSm at h
    split at h
    · simp only [Bool.and_eq_true, decide_eq_true_eq] at h
      obtain ⟨⟨⟨⟨⟨⟨⟨⟨⟨h1, h2⟩, h3⟩, h4⟩, h5⟩, h6⟩, h7⟩, h8⟩, h9⟩, h10⟩ := h
      subst h5 h6 h7
      unfold suB at h8 h9
      split at h8
      · split at h9
        · simp only [Bool.and_eq_true, decide_eq_true_eq] at h8 h9
          obtain ⟨⟨⟨⟨⟨⟨k1, k2⟩, k3⟩, k4⟩, k5⟩, k6⟩, k7⟩ := h8
          obtain ⟨⟨⟨⟨⟨⟨l1, l2⟩, l3⟩, l4⟩, l5⟩, l6⟩, l7⟩ := h9
          have e1 := eq_of_beq k1
          have e2 := eq_of_beq k2
          have e3 := eq_of_beq l1
          have e4 := eq_of_beq l2
          subst e1 e2 e3 e4 k3
          cases l3
          exact s_tryB C h1 (eq_of_beq h2) h3 (eq_of_beq h4) k6 (isLoc_eq k7) k4 k5 fun W' X' C' => sndSs b C' h10
        · cases h9
      · cases h8
    · cases h
theorem sndSs : ∀ (s : List Sm) {W : WX} {X : Cx} {sts : List Stmt}, CtxS Γ n F W N sc X → mSs Γ N sc s sts = true → PSs X sts (RdSs F (run Γ.Δ n) W s)
  | [], W, X, [], C, h => pss_none
  | [], W, X, _ :: _, C, h => by cases h
  | s :: r, W, X, sts, C, h => by
    cases s with
    | frz i => exact pss_frz (sndSs r C (by simpa [mSs] using h))
    | _ =>
      cases sts with
      | nil => cases h
      | cons st sts =>
        have h' := h
        unfold mSs at h'
        rw [Bool.and_eq_true] at h'
        exact pss_two (sndSm _ C h'.1) (sndSs r C h'.2)
end
end
end Cw

namespace Cw
open PySem PySem.Spec PyProof.Rows L2
/-- a def as it stands behind the top -/
def FunD (K : PySem.W.Frag) (mg : Str → Option Value) (Γ : Gl0) (d : Fd) : Prop := ∃ (f : Addr) (st : Stmt) (fd : FuncData) (N ps : List Str), Fun K d.name d.name st f fd ∧ mg d.name = some (.ref f) ∧ Binds K fd ps [] ∧ FnScope N ps (defScope st) ∧ d.np = ps.length ∧ d.nn = N.length ∧ mSs Γ N (defScope st) d.body (defBody st) = true
/-- what the top says -/
structure TopD (Γ : Gl0) (K : PySem.W.Frag) (mg : Str → Option Value) (ca : Nat → Addr) : Prop where
  gd : Γ.gd = false
  exf : ExcF K mg ca
  blt : ∀ x, x ∈ bltNames → mg x = none
  glo : ∀ k, k ∈ Γ.gl → ∃ u v, mg (gname k) = some u ∧ RelV v u ∧ ∀ G, Rp K G v (gval k)
  fns : ∀ (i : Nat) (d : Fd), Γ.Δ[i]? = some d → FunD K mg Γ d
section
variable {Γ : Gl0} {K : PySem.W.Frag} {mg : Str → Option Value} {ca : Nat → Addr} {P : Program} {w : World} {base : Heap}
theorem ctx_of (T : TopD Γ K mg ca) {n : Nat} {F : Fx} {N ps : List Str} {qual : Str} {scope : Scope} {f : Addr} {cd : Value} {A : Around} {outer : List PySem.Env} {s : Shared} {H : Hp} {E : XK} (hK : F.K = K) (hca : F.ca = ca) (S : FnScope N ps scope) (hr : Room n (A.deeper (envOfC qual scope s.heap.objs.size f cd)))
    (fn : ∀ (i : Nat) (d : Fd), Γ.Δ[i]? = some d → ∃ f fdt ps, mg d.name = some (.ref f) ∧ PySem.W.keepIn K (.ref f) = true ∧ Binds K fdt ps [] ∧ FnG Γ.gd P w K mg base n f fdt ps (spD Γ K ca n i)) :
    CtxS Γ n F (fun cls d _ H => E cls d H) N scope (cxOf (L2.CX P w) P w K mg base N qual scope f cd A outer s H E) := by
  have tk : Takes (cxOf (L2.CX P w) P w K mg base N qual scope f cd A outer s H E) (fun cls d _ H => E cls d H) := takes_of rfl rfl rfl rfl
  subst hK hca
  exact
  { c := { hK := rfl, hN := rfl, nd := S.nd, hs := rfl, raw := fun x k h _ => ⟨h, fun _ => rfl⟩, calm := rfl, room := hr, gua := (fun e => by rw [T.gd] at e; cases e), pass := fun σ => passAt tk σ, blt := T.blt, glo := T.glo, fn := fn }
    tk := tk
    po := passes_of rfl
    stk := rfl
    frm := rfl
    knd := S.kind
    exf := T.exf }
theorem spD_len {n i : Nat} {d : Fd} (hd : Γ.Δ[i]? = some d) {vs : List V} {H : Hp} {Q : VK} {E : XK} (h : spD Γ K ca n i vs H Q E) : vs.length = d.np := by
  obtain ⟨F, G, S, es, h1, h2, g, vr, ok, h3⟩ := h
  cases n with
  | zero => exact h3.elim
  | succ n =>
    have e : run Γ.Δ (n + 1) i es F.B S = if es.length == d.np then (xSs (run Γ.Δ n) F.B d.body (es.map some ++ List.replicate (d.nn - d.np) none) S).fin else .bad := by
      show (match Γ.Δ[i]? with
        | none => Res.bad
        | some d => if es.length == d.np then (xSs (run Γ.Δ n) F.B d.body (es.map some ++ List.replicate (d.nn - d.np) none) S).fin else .bad) = _
      rw [hd]
    rw [e] at h3
    cases hl : es.length == d.np with
    | false => rw [hl] at h3; exact h3.elim
    | true => rw [← vr.len]; exact eq_of_beq hl
theorem fr_start {F : Fx} {G H : Hp} {S : Sta} {es : List EV} {vs : List V} {N : List Str} {nn np : Nat} (g : Good F G H S) (vr : VRs F G H es vs) (ok : es.all argOk = true) (h1 : es.length = np) (h2 : nn = N.length) :
    FR F G H (es.map some ++ List.replicate (nn - np) none) S (L2.start N vs) G H (fun _ => []) where
  good := g
  ext := Ext.refl
  new := fun i a ha => by cases ha
  one := fun i j a ha => by cases ha
  off := fun i a ha => by cases ha
  len := by
    unfold L2.start
    rw [List.length_append, List.length_append, List.length_map, List.length_map, List.length_replicate, List.length_replicate, vr.len, h2, ← h1, vr.len]
  slot := fun i e h => by
    have hi : i < es.length := by
      by_cases hi : i < es.length
      · exact hi
      · rw [List.getElem?_append_right (by simpa using hi), List.getElem?_replicate] at h
        split at h <;> cases h
    rw [List.getElem?_append_left (by simpa using hi), List.getElem?_map] at h
    have he : es[i]? = some e := by
      cases q : es[i]? with
      | none => rw [q] at h; cases h
      | some a => rw [q] at h; cases h; rfl
    have key : ∀ {es : List EV} {vs : List V} {i : Nat}, VRs F G H es vs → es[i]? = some e → ∃ v, vs[i]? = some v ∧ VR F G H e v := by
      intro es vs i r
      induction r generalizing i with
      | nil => intro h; simp at h
      | cons r rs ih =>
        intro h
        cases i with
        | zero => simp at h; subst h; exact ⟨_, rfl, r⟩
        | succ i => exact ih (by simpa using h)
    obtain ⟨v, h3, h4⟩ := key vr he
    refine ⟨v, ?_, ?_⟩
    · unfold L2.start
      have hv : i < vs.length := (List.getElem?_eq_some_iff.mp h3).1
      rw [List.getElem?_append_left (by simpa using hv), List.getElem?_map, h3]
      rfl
    · have oke : argOk e = true := List.all_eq_true.mp ok e (List.mem_of_getElem? he)
      cases e with
      | own xs => cases oke
      | _ => exact h4
theorem post_fin {F : Fx} {G H : Hp} {o : Out} {Q : VK} {E : XK} (h : match o.fin with
    | .ok d S' => ∀ v G' H', Ext F.sa G H G' H' → Good F G' H' S' → Rp F.K G' v d → Q v H'
    | .exc c S' => ∀ G' H', Ext F.sa G H G' H' → Good F G' H' S' → E (.ref (F.ca c)) none H'
    | .bad => False) : PostS F (fun cls d _ H => E cls d H) { nx := fun _ H' => Q .non H', rt := Q } G H G H o := by
  cases o with
  | nx ρ S => exact fun σ' G' H' β' fr _ => h .non G' H' fr.ext fr.good .non
  | rt d S => exact h
  | exc c ρ S => exact fun σ' G' H' β' fr _ => h G' H' fr.ext fr.good
  | bk ρ S => exact h.elim
  | ct ρ S => exact h.elim
  | bad => exact h.elim
theorem FnG.of_ok {n : Nat} {f : Addr} {fd : FuncData} {ps : List Str} {sp : Sp} {gd : Bool} (h : FnOk P w K mg base (L2.CX P w) n f fd ps sp) : FnG gd P w K mg base n f fd ps sp := ⟨h.len, fun A outer s H args us vs Q E hr _ e0 hb r hsp => h.run A outer s H args us vs Q E hr e0 hb r hsp⟩
/-- every def, by so many levels of calls -/
theorem fns_ok (T : TopD Γ K mg ca) : ∀ (n i : Nat) (d : Fd), Γ.Δ[i]? = some d → ∃ f fdt ps, mg d.name = some (.ref f) ∧ PySem.W.keepIn K (.ref f) = true ∧ Binds K fdt ps [] ∧ FnG Γ.gd P w K mg base n f fdt ps (spD Γ K ca n i)
  | 0, i, d, hd => by
    obtain ⟨f, st, fd, N, ps, F, h1, h2, h3, h4, h5, h6⟩ := T.fns i d hd
    refine ⟨f, fd, ps, h1, F.kp, h2, ⟨fun vs H Q E h => by rw [spD_len hd h, h4], fun A outer s H args us vs Q E hr hg e0 hb r h => ?_⟩⟩
    obtain ⟨F, G, S, es, _, _, _, _, _, h⟩ := h
    exact h.elim
  | n + 1, i, d, hd => by
    obtain ⟨f, st, fd, N, ps, F, h1, h2, h3, h4, h5, h6⟩ := T.fns i d hd
    refine ⟨f, fd, ps, h1, F.kp, h2, ?_⟩
    obtain ⟨oc, od, kV, doc, pm, an, cdv, ct, osl, rfl, lk, hcd⟩ := F.ex
    refine .of_ok (fn_of lk hcd h3 (fun vs H Q E h => by rw [spD_len hd h, h4]) fun A outer s H vs Q E hr h => ?_)
    have hl := spD_len hd h
    obtain ⟨Fx, G, S, es, hK, hca, g, vr, ok, h⟩ := h
    have C := ctx_of (P := P) (w := w) (base := base) (qual := d.name) (f := f) (cd := cdv) (A := A) (outer := outer) (s := s) (H := H) (E := E) T hK hca h3 hr (fns_ok T n)
    refine ⟨_, sndSs d.body C h6, ?_⟩
    have e : run Γ.Δ (n + 1) i es Fx.B S = if es.length == d.np then (xSs (run Γ.Δ n) Fx.B d.body (es.map some ++ List.replicate (d.nn - d.np) none) S).fin else .bad := by
      show (match Γ.Δ[i]? with
        | none => Res.bad
        | some d => if es.length == d.np then (xSs (run Γ.Δ n) Fx.B d.body (es.map some ++ List.replicate (d.nn - d.np) none) S).fin else .bad) = _
      rw [hd]
    rw [e, if_pos (by rw [vr.len, hl]; exact beq_self_eq_true _)] at h
    subst hK hca
    exact ⟨G, H, _, S, G, _, fr_start g vr ok (by rw [vr.len, hl]) h5, post_fin h⟩
end
end Cw

namespace Cw
open PySem PySem.Spec PyProof.Rows L2
/-- law's body: state = [list(script), 0, 0, 1], then the rest -/
def mLaw (Γ : Gl0) (N : List Str) (sc : Scope) (j : Nat) (rest : List Sm) (sts : List Stmt) : Bool := match sts with
  | .Assign [.Name u _] (.List [.Call (.Name l _) [.Name v _] [] _, .Constant (.int a) _ _, .Constant (.int b) _ _, .Constant (.int c) _ _] _) _ :: r =>
    isL N sc j u && isG sc l && l == ("list" : Str) && isV N sc 0 v && decide (a = 0) && decide (b = 0) && decide (c = 1) && decide (j ≠ 0) && mSs Γ N sc rest r
  | _ => false
def sta0 (ns : List Int) : Sta := [.list (ns.map .int), .int 0, .int 0, .int 1]
def rho0 (nn j : Nat) : Rho := (List.replicate nn none).set j (some .st)
def spLaw (K : PySem.W.Frag) (most : Nat) : Sp := fun vs H Q _ => ∃ (a : Addr) (ns : List Int), vs = [.ref a] ∧ Only H ∧ SqL K H a (ns.map V.int) ∧ ns.length ≤ most ∧ ∀ H', Q (.bl true) H'
section
variable {Γ : Gl0} {K : PySem.W.Frag} {mg : Str → Option Value} {ca : Nat → Addr} {P : Program} {w : World} {base : Heap}
theorem law_fn (T : TopD Γ K mg ca) {f : Addr} {j nn n most : Nat} {rest : List Sm} {st : Stmt} {fd : FuncData} {N : List Str} (F : Fun K "law" "law" st f fd) (h3 : FnScope N ["script"] (defScope st)) (h5 : nn = N.length) (h6 : mLaw Γ N (defScope st) j rest (defBody st) = true) (plain : ∀ ns : List Int, ns.length ≤ most → ∃ S, xSs (run Γ.Δ n) [] rest (rho0 nn j) (sta0 ns) = .rt (.bool true) S) :
    FnOk P w K mg base (L2.CX P w) (n + 1) f fd ["script"] (spLaw K most) := by
  obtain ⟨oc, od, kV, doc, pm, an, cdv, ct, osl, rfl, lk, hcd⟩ := F.ex
  refine fn_of lk hcd h3 (fun vs H Q E h => ?_) fun A outer s H vs Q E hr h => ?_
  · obtain ⟨a, ns, rfl, _⟩ := h
    rfl
  unfold mLaw at h6
  split at h6
  · rename_i u p1 l p2 v p3 p4 a0 k0 p5 b0 k1 p6 c0 k2 p7 p8 p9 r hb
    simp only [Bool.and_eq_true, decide_eq_true_eq] at h6
    obtain ⟨⟨⟨⟨⟨⟨⟨⟨g1, g2⟩, g3⟩, g4⟩, rfl⟩, rfl⟩, rfl⟩, g8⟩, g9⟩ := h6
    have el := eq_of_beq g3
    subst el
    have CF : ∀ (Fx0 : Fx), Fx0.K = K → Fx0.ca = ca → CtxS Γ n Fx0 (fun cls d _ H => E cls d H) N (defScope st) (cxOf (L2.CX P w) P w K mg base N "law" (defScope st) f cdv A outer s H E) := fun Fx0 hK hca => ctx_of T hK hca h3 hr (fns_ok T n)
    have C0 := CF ⟨K, 0, ca, [], []⟩ rfl rfl
    obtain ⟨q1, q2, q3⟩ := C0.c.glob g2
    obtain ⟨v1, v2, v3, v4⟩ := C0.c.vis g4
    obtain ⟨l1, l2, l3⟩ := C0.c.loc g1
    have e0 := pe_callTy (X := cxOf (L2.CX P w) P w K mg base N "law" (defScope st) f cdv A outer s H E) (p := p2) (pos := p4) call_list_of q1 (C0.c.blt _ (bname_mem .list)) (boot_blt .list) (pa_cons (pe_var (pos := p3) v1 v2 v3 v4) pa_nil) q3 q2
    have e1 := pe_lst (pos := p8) (pa_cons e0 (pa_cons (pe_int (i := 0) (j := k0) (pos := p5)) (pa_cons (pe_int (i := 0) (j := k1) (pos := p6)) (pa_cons (pe_int (i := 1) (j := k2) (pos := p7)) pa_nil))))
    have s1 := ps_set (pos := p9) (pos' := p1) (by exact C0.c.nd) l1 l2 e1 rfl l3
    have s2 : PSs (cxOf (L2.CX P w) P w K mg base N "law" (defScope st) f cdv A outer s H E) r (fun E' σ H' => ∃ Fx0 : Fx, Fx0.K = K ∧ Fx0.ca = ca ∧ RdSs Fx0 (run Γ.Δ n) (fun cls d _ H => E cls d H) rest E' σ H') :=
      ⟨fun pins s' σ H' D I ⟨Fx0, hK, hca, q⟩ => (sndSs rest (CF Fx0 hK hca) g9).run pins s' σ H' D I q⟩
    rw [hb]
    refine ⟨_, pss_cons s1 s2, ?_⟩
    obtain ⟨a, ns, rfl, hO, hS, hlen, hQ⟩ := h
    obtain ⟨S', hrun⟩ := plain ns hlen
    refine ⟨.ref a, rfl, a, ns.map V.int, rfl, .inl hS, fun p np => ?_⟩
    refine ⟨by show 4 ≤ sizeLine; rw [sizeLine_eq]; omega, fun D nD => ?_⟩
    have npD : p ≠ D := fun e => by
      rw [← e, upd_same] at nD
      cases nD
    have nHD : H D = none := by
      rw [upd_ne (fun e => npD e.symm)] at nD
      exact nD
    refine ⟨⟨K, D, ca, [], []⟩, rfl, rfl, upd H p (.lst (ns.map V.int)), _, rho0 nn j, sta0 ns, upd H p (.lst (ns.map V.int)), fun _ => [], ⟨⟨fun b o hb => ?_, nD, ⟨_, upd_same, ?_⟩, rfl, fun k b xs hk => by simp at hk⟩, Ext.refl, (fun i a ha => by cases ha), (fun i j a ha => by cases ha), (fun i a ha => by cases ha), ?_, fun i e hi => ?_⟩, ?_⟩
    · rw [upd_ne (ne_of_none hb nD)]
      exact hb
    · exact .cons (.lst upd_same (RpAll.ints ns)) (.cons (.int 0) (.cons (.int 0) (.cons (.int 1) .nil)))
    · unfold rho0 L2.start
      rw [List.length_set, List.length_replicate, List.length_set, List.length_append, List.length_map, List.length_replicate, h5]
      have := (List.getElem?_eq_some_iff.mp v1).1
      have hN : (cxOf (L2.CX P w) P w K mg base N "law" (defScope st) f cdv A outer s H E).N = N := rfl
      rw [hN] at this
      simp only [List.length_cons, List.length_nil]
      omega
    · unfold rho0 at hi
      have hj : j < nn := by
        have := (List.getElem?_eq_some_iff.mp l1).1
        rw [h5]
        exact this
      by_cases e : j = i
      · subst e
        rw [List.getElem?_set_self (by simpa using hj)] at hi
        cases hi
        refine ⟨.ref D, ?_, rfl⟩
        rw [List.getElem?_set_self]
        unfold L2.start
        rw [List.length_append, List.length_map, List.length_replicate]
        simp only [List.length_cons, List.length_nil]
        omega
      · rw [List.getElem?_set_ne e, List.getElem?_replicate] at hi
        split at hi <;> cases hi
    · rw [hrun]
      intro v G' H' _ _ rv
      have ev := rv.bl_inv
      subst ev
      exact hQ H'
  · cases h6
/-- the goal behind the head, from what the top says and the plain law -/
theorem cw_walk {Γ : Gl0} {ca : Nat → Addr} {l : PySem.W.OpenLaw} {q : Program} {loose : List Str} {XP : (Str → Option Value) → Heap → Prop} {YP : World → Heap → Prop} {d : DefRec} {K : Params → PySem.W.Frag} {most n j nn : Nat} {rest : List Sm} {st : Stmt} {N : List Str} (hn : l.most = some most) (hn2 : most ≤ sizeLine) (hdf : d.params.defaults = []) (hr : Room (n + 1) callerA)
    (hY : ∀ (w : World) (h : Heap), YP w h → (K w.params).In h) (h3 : FnScope N ["script"] (defScope st)) (h5 : nn = N.length) (h6 : mLaw Γ N (defScope st) j rest (defBody st) = true)
    (T : ∀ (w : World) (mg : Str → Option Value) (fa : Addr) (h : Heap), (K w.params).In h → h.Ns mainGlobals mg → mg d.name = some (.ref fa) → TopD Γ (K w.params) mg ca ∧ ∃ fd : FuncData, Fun (K w.params) "law" "law" st fa fd ∧ ∀ (s : Shared) (u : Value), BindsTo s fd ⟨[u], []⟩ [("script", u)])
    (plain : ∀ ns : List Int, ns.length ≤ most → ∃ S, xSs (run Γ.Δ n) [] rest (rho0 nn j) (sta0 ns) = .rt (.bool true) S) :
    PySem.W.WalkO q loose XP YP l.row.toRowW d [] (fun f vs => PySem.call f vs) :=
  L2.walk_of (n := most) (k := n + 1) (x := "script") (CX := fun w => L2.CX l.prog w) (sp := fun w => spLaw (K w.params) most) hn hn2 hdf hr hY
    (fun w mg fa h KX G hmg => by
      obtain ⟨T1, fd, F, hb⟩ := T w mg fa h KX G hmg
      exact ⟨fd, hb, fun base _ _ => law_fn T1 F h3 h5 h6 plain⟩)
    (fun w H a ns hl hO hS => ⟨a, ns, rfl, hO, hS, hl, fun _ => rfl⟩)
    fun w H s e s' ⟨_, _, _, _, _, _, _, _, _, _, _, _, z⟩ => z
end
end Cw

namespace Cw
open PySem PySem.Spec PyProof.Rows L2
section
variable {Γ : Gl0} {K : PySem.W.Frag} {mg : Str → Option Value}
def caOf (A0 A1 : Addr) : Nat → Addr := fun c => if c = 0 then A0 else A1
inductive AllD (K : PySem.W.Frag) (mg : Str → Option Value) (Γ : Gl0) : List Fd → Prop
  | nil : AllD K mg Γ []
  | cons {d : Fd} {r : List Fd} : FunD K mg Γ d → AllD K mg Γ r → AllD K mg Γ (d :: r)
theorem AllD.get : ∀ {l : List Fd} {i : Nat} {d : Fd}, AllD K mg Γ l → l[i]? = some d → FunD K mg Γ d
  | [], _, _, _, h => by simp at h
  | _ :: _, 0, _, .cons a _, h => by simp at h; rw [← h]; exact a
  | _ :: _, i + 1, _, .cons _ r, h => AllD.get (i := i) r (by simpa using h)
theorem all_fns (h : AllD K mg Γ Γ.Δ) : ∀ (i : Nat) (d : Fd), Γ.Δ[i]? = some d → FunD K mg Γ d := fun _ _ e => h.get e
theorem blt_mk (h0 : mg "len" = none) (h1 : mg "abs" = none) (h2 : mg "int" = none) (h3 : mg "str" = none) (h4 : mg "list" = none) (h5 : mg "tuple" = none) (h6 : mg "max" = none) (h7 : mg "min" = none) (h8 : mg "sum" = none) (h9 : mg "isinstance" = none) (h10 : mg "range" = none) (h11 : mg "bool" = none) (h12 : mg "enumerate" = none) (h13 : mg "zip" = none) : ∀ x, x ∈ bltNames → mg x = none := by
  intro x hx
  simp only [bltNames, List.mem_cons, List.not_mem_nil, or_false] at hx
  rcases hx with rfl | rfl | rfl | rfl | rfl | rfl | rfl | rfl | rfl | rfl | rfl | rfl | rfl | rfl <;> assumption
theorem tup2_K {a : Addr} {od : Option Addr} {x y : Int} {t u : Tok} {n : Nat} {sl : Array (Option Value)} (h : K.lookup a = some ⟨.type "tuple", od, .seq #[.int x t, .int y u] n, sl⟩) {G : Hp} : Rp K G (.ref a) (.tuple [.int x, .int y]) :=
  .tup (vs := [.int x, .int y]) (.inr ⟨_, _, _, h, rfl, rfl, by rw [sizeLine_eq]; show 2 ≤ _; omega, .cons ⟨t, rfl⟩ (.cons ⟨u, rfl⟩ .nil)⟩) (.cons (.int x) (.cons (.int y) .nil))
theorem lt2 {p : Nat → Prop} (h0 : p 0) (h1 : p 1) : ∀ c, c < 2 → p c
  | 0, _ => h0
  | 1, _ => h1
  | n + 2, h => by omega
theorem kit_sub {A : Addr} (h : PySem.W.subIn K (.ref A) (.type "ValueError") = some true) : PySem.W.kitOne K (.ref A) (.type "ValueError") = some true := by
  unfold PySem.W.kitOne
  rw [if_neg (by simp)]
  have m : PySem.W.kitMeta "ValueError" = true := by decide +kernel
  show (if PySem.W.kitMeta "ValueError" = true then PySem.W.subIn K (.ref A) (.type "ValueError") else none) = some true
  rw [if_pos m]
  exact h
theorem exf_mk {A0 A1 : Addr} (n0 : mg "UnfitChance" = some (.ref A0)) (n1 : mg "TooWide" = some (.ref A1)) (x0 : PySem.W.excIn K A0 [.type "ValueError", .type "Exception", .type "BaseException", .type "object"] "ValueError.__new__" = true) (x1 : PySem.W.excIn K A1 [.type "ValueError", .type "Exception", .type "BaseException", .type "object"] "ValueError.__new__" = true)
    (k0 : PySem.W.keepIn K (.ref A0) = true) (k1 : PySem.W.keepIn K (.ref A1) = true) (b0 : PySem.W.subIn K (.ref A0) (.type "BaseException") = some true) (b1 : PySem.W.subIn K (.ref A1) (.type "BaseException") = some true) (t0 : PySem.W.typeIn K (.ref A0) = some (.type "type")) (t1 : PySem.W.typeIn K (.ref A1) = some (.type "type"))
    (e0 : ExcC K A0) (e1 : ExcC K A1) (v0 : PySem.W.subIn K (.ref A0) (.type "ValueError") = some true) (v1 : PySem.W.subIn K (.ref A1) (.type "ValueError") = some true)
    (q00 : PySem.W.subIn K (.ref A0) (.ref A0) = some true) (q01 : PySem.W.subIn K (.ref A0) (.ref A1) = some false) (q10 : PySem.W.subIn K (.ref A1) (.ref A0) = some false) (q11 : PySem.W.subIn K (.ref A1) (.ref A1) = some true) (vn : mg "ValueError" = none) (is : mg "isinstance" = none) : ExcF K mg (caOf A0 A1) where
  nm := lt2 n0 n1
  md := lt2 ⟨_, _, _, _, PySem.F.excBase_ValueError, x0⟩ ⟨_, _, _, _, PySem.F.excBase_ValueError, x1⟩
  kp := lt2 k0 k1
  sb := lt2 b0 b1
  ty := lt2 t0 t1
  ec := lt2 e0 e1
  ve := lt2 (kit_sub v0) (kit_sub v1)
  ex := fun c c' h h' => by
    have h2 : c = 0 ∨ c = 1 := by omega
    have h3 : c' = 0 ∨ c' = 1 := by omega
    rcases h2 with rfl | rfl <;> rcases h3 with rfl | rfl
    · exact PySem.W.exm_ref b0 e0.hd t0 q00
    · exact PySem.W.exm_ref b1 e1.hd t1 q01
    · exact PySem.W.exm_ref b0 e0.hd t0 q10
    · exact PySem.W.exm_ref b1 e1.hd t1 q11
  vn := vn
  is := is
end
end Cw

namespace Cw
/-! the defs that most laws share -/
structure Ix where
  is_whole : Nat := 0
  is_told : Nat := 0
  divisor : Nat := 0
  ratio : Nat := 0
  plus : Nat := 0
  sub : Nat := 0
  mul : Nat := 0
  div : Nat := 0
  less : Nat := 0
  total : Nat := 0
  is_fraction : Nat := 0
  are_fractions : Nat := 0
  law_next : Nat := 0
  law_same : Nat := 0
  law_is : Nat := 0
  law_changed : Nat := 0
  law_ints : Nat := 0
  law_exchanged : Nat := 0
  law_cut : Nat := 0
  law_turned_about : Nat := 0
  law_odd : Nat := 0
  law_gcd : Nat := 0
  law_of : Nat := 0
  law_add : Nat := 0
  law_mul : Nat := 0
  law_less : Nat := 0
  law_total : Nat := 0
  law_over : Nat := 0
  law_minus : Nat := 0
  law_parts : Nat := 0
  law_solve : Nat := 0
  law_fraction : Nat := 0
  law_neighbour : Nat := 0
  law_all_names : Nat := 0
  law_swapped : Nat := 0
  law_is_whole : Nat := 0
  law_is_part : Nat := 0
  law_are_parts : Nat := 0
  law_states : Nat := 0
  law_inner : Nat := 0
  law_chance : Nat := 0
  whole : Nat := 0
  law_is_place : Nat := 0
  are_places : Nat := 0
  are_fraction_rows : Nat := 0
  check_rows : Nat := 0
  law_are_places : Nat := 0
  check_events : Nat := 0
  law_events : Nat := 0
  law_comes_in : Nat := 0
  law_count : Nat := 0
def s_is_whole (I : Ix) : Fd := ⟨"is_whole", 1, 1, [.ret (.ands [(.isi (.v 0) [.int] true), (.not (.isi (.v 0) [.bool] true))])]⟩
def s_is_told (I : Ix) : Fd := ⟨"is_told", 3, 3, [.ite (.ors [(.not (.isi (.v 0) [.tuple] true)), (.cmp .ne (.blt .len [(.v 0)]) (.v 2))]) [.ret (.c (.bool false))] [], .ret (.ands [(.isi (.sub (.v 0) (.c (.int 0))) [.str] true), (.cmp .eq (.sub (.v 0) (.c (.int 0))) (.v 1))])]⟩
def s_divisor (I : Ix) : Fd := ⟨"divisor", 2, 2, [.whl (.slot 1) (.cmp .ne (.v 1) (.c (.int 0))) [.par2 0 1 (.v 1) (.bin .mod (.v 0) (.v 1))], .ret (.blt .abs [(.v 0)])]⟩
def s_ratio (I : Ix) : Fd := ⟨"ratio", 2, 3, [.set 2 (.call I.divisor [(.v 0), (.v 1)]), .ite (.cmp .lt (.v 1) (.c (.int 0))) [.set 2 (.neg (.v 2))] [], .ret (.tup [(.bin .fdiv (.v 0) (.v 2)), (.bin .fdiv (.v 1) (.v 2))])]⟩
def s_plus (I : Ix) : Fd := ⟨"plus", 2, 2, [.ret (.call I.ratio [(.bin .add (.bin .mul (.sub (.v 0) (.c (.int 0))) (.sub (.v 1) (.c (.int 1)))) (.bin .mul (.sub (.v 1) (.c (.int 0))) (.sub (.v 0) (.c (.int 1))))), (.bin .mul (.sub (.v 0) (.c (.int 1))) (.sub (.v 1) (.c (.int 1))))])]⟩
def s_sub (I : Ix) : Fd := ⟨"sub", 2, 2, [.ret (.call I.ratio [(.bin .sub (.bin .mul (.sub (.v 0) (.c (.int 0))) (.sub (.v 1) (.c (.int 1)))) (.bin .mul (.sub (.v 1) (.c (.int 0))) (.sub (.v 0) (.c (.int 1))))), (.bin .mul (.sub (.v 0) (.c (.int 1))) (.sub (.v 1) (.c (.int 1))))])]⟩
def s_mul (I : Ix) : Fd := ⟨"mul", 2, 2, [.ret (.call I.ratio [(.bin .mul (.sub (.v 0) (.c (.int 0))) (.sub (.v 1) (.c (.int 0)))), (.bin .mul (.sub (.v 0) (.c (.int 1))) (.sub (.v 1) (.c (.int 1))))])]⟩
def s_div (I : Ix) : Fd := ⟨"div", 2, 2, [.ret (.call I.ratio [(.bin .mul (.sub (.v 0) (.c (.int 0))) (.sub (.v 1) (.c (.int 1)))), (.bin .mul (.sub (.v 0) (.c (.int 1))) (.sub (.v 1) (.c (.int 0))))])]⟩
def s_less (I : Ix) : Fd := ⟨"less", 2, 2, [.ret (.cmp .lt (.bin .mul (.sub (.v 0) (.c (.int 0))) (.sub (.v 1) (.c (.int 1)))) (.bin .mul (.sub (.v 1) (.c (.int 0))) (.sub (.v 0) (.c (.int 1)))))]⟩
def s_total (I : Ix) : Fd := ⟨"total", 1, 3, [.set 1 (.g 0), .for (.v 2) (.val (.v 0)) [.set 1 (.call I.plus [(.v 1), (.v 2)])], .ret (.v 1)]⟩
def s_is_fraction (I : Ix) : Fd := ⟨"is_fraction", 1, 1, [.ite (.ors [(.not (.isi (.v 0) [.tuple] true)), (.cmp .ne (.blt .len [(.v 0)]) (.c (.int 2))), (.not (.call I.is_whole [(.sub (.v 0) (.c (.int 0)))])), (.not (.call I.is_whole [(.sub (.v 0) (.c (.int 1)))]))]) [.ret (.c (.bool false))] [], .ret (.ands [(.cmp .gt (.sub (.v 0) (.c (.int 1))) (.c (.int 0))), (.cmp .eq (.call I.divisor [(.sub (.v 0) (.c (.int 0))), (.sub (.v 0) (.c (.int 1)))]) (.c (.int 1)))])]⟩
def s_are_fractions (I : Ix) : Fd := ⟨"are_fractions", 2, 3, [.ret (.ands [(.isi (.v 0) [.tuple] true), (.cmp .eq (.blt .len [(.v 0)]) (.v 1)), (.cmp .nin (.c (.bool false)) (.lc [2] (.v 2) (.val (.v 0)) [] (.call I.is_fraction [(.v 2)])))])]⟩
def s_law_next (I : Ix) : Fd := ⟨"_law_next", 2, 4, [.ite (.ands [(.cmp .eq (.sub (.v 0) (.c (.int 2))) (.c (.int 0))), (.cmp .lt (.sub (.v 0) (.c (.int 1))) (.blt .len [(.sub (.v 0) (.c (.int 0)))]))]) [.set 2 (.sub (.sub (.v 0) (.c (.int 0))) (.sub (.v 0) (.c (.int 1)))), .augs 0 1 (.c (.int 1)), .ite (.cmp .ge (.v 2) (.bin .pow (.c (.int 10)) (.c (.int 18)))) [.sit 0 (.c (.int 2)) (.v 2)] [.sit 0 (.c (.int 3)) (.bin .mod (.blt .int [(.bin .add (.bin .add (.bin .mul (.sub (.v 0) (.c (.int 3))) (.c (.int 48271))) (.bin .mod (.blt .int [(.v 2)]) (.c (.int 2147483647)))) (.c (.int 7)))]) (.c (.int 2147483647)))]] [], .ite (.cmp .gt (.sub (.v 0) (.c (.int 2))) (.c (.int 0))) [.set 3 (.bin .mod (.blt .int [(.sub (.v 0) (.c (.int 2)))]) (.v 1)), .sit 0 (.c (.int 2)) (.bin .fdiv (.sub (.v 0) (.c (.int 2))) (.v 1)), .ret (.v 3)] [], .sit 0 (.c (.int 3)) (.bin .mod (.blt .int [(.bin .add (.bin .mul (.sub (.v 0) (.c (.int 3))) (.c (.int 69621))) (.c (.int 12345)))]) (.c (.int 2147483647))), .ret (.bin .mod (.blt .int [(.bin .fdiv (.sub (.v 0) (.c (.int 3))) (.c (.int 7)))]) (.v 1))]⟩
def s_law_same (I : Ix) : Fd := ⟨"_law_same", 2, 3, [.ite (.cmp .isx (.v 1) (.c .none)) [.ret (.cmp .isx (.v 0) (.c .none))] [], .ite (.isi (.v 1) [.bool] true) [.ret (.ands [(.isi (.v 0) [.bool] true), (.cmp .eq (.v 0) (.v 1))])] [], .ite (.isi (.v 1) [.int] true) [.ret (.ands [(.isi (.v 0) [.int] true), (.not (.isi (.v 0) [.bool] true)), (.cmp .eq (.v 0) (.v 1))])] [], .ite (.isi (.v 1) [.str] true) [.ret (.ands [(.isi (.v 0) [.str] true), (.cmp .eq (.v 0) (.v 1))])] [], .ite (.ands [(.isi (.v 1) [.tuple] true), (.not (.isi (.v 0) [.tuple] true))]) [.ret (.c (.bool false))] [], .ite (.ands [(.isi (.v 1) [.list] true), (.not (.isi (.v 0) [.list] true))]) [.ret (.c (.bool false))] [], .ite (.cmp .ne (.blt .len [(.v 0)]) (.blt .len [(.v 1)])) [.ret (.c (.bool false))] [], .for (.v 2) (.rng1 (.blt .len [(.v 1)])) [.ite (.not (.call I.law_same [(.sub (.v 0) (.v 2)), (.sub (.v 1) (.v 2))])) [.ret (.c (.bool false))] []], .ret (.c (.bool true))]⟩
def s_law_is (I : Ix) : Fd := ⟨"_law_is", 3, 3, [.ret (.ands [(.isi (.v 0) [.tuple] true), (.cmp .eq (.blt .len [(.v 0)]) (.v 2)), (.isi (.sub (.v 0) (.c (.int 0))) [.str] true), (.cmp .eq (.sub (.v 0) (.c (.int 0))) (.v 1))])]⟩
def s_law_changed (I : Ix) : Fd := ⟨"_law_changed", 2, 7, [.ite (.isi (.v 1) [.bool] true) [.ret (.sub (.lst [(.not (.v 1)), (.blt .int [(.v 1)])]) (.call I.law_next [(.v 0), (.c (.int 2))]))] [], .ite (.ors [(.cmp .isx (.v 1) (.c .none)), (.isi (.v 1) [.int] true)]) [.ret (.sub (.lst [(.bin .add (.ors [(.v 1), (.c (.int 0))]) (.c (.int 1))), (.bin .sub (.ors [(.v 1), (.c (.int 0))]) (.c (.int 1))), (.c (.int 0)), (.c .none), (.cmp .eq (.v 1) (.c (.int 1))), (.blt .str [(.v 1)]), (.bin .mul (.c (.int 2)) (.ors [(.v 1), (.c (.int 1))]))]) (.call I.law_next [(.v 0), (.c (.int 7))]))] [], .ite (.isi (.v 1) [.str] true) [.set 5 (.lst [(.slcL (.v 1) (.c (.int 1))), (.bin .add (.v 1) (.c (.str (PySem.Str.ofString "a")))), (.rev (.v 1)), (.bin .add (.c (.str (PySem.Str.ofString "b"))) (.v 1)), (.c (.str (PySem.Str.ofString ""))), (.slcH (.v 1) (.neg (.c (.int 1)))), (.c (.str (PySem.Str.ofString "left"))), (.c (.int 3)), (.c (.str (PySem.Str.ofString "in")))]), .ret (.sub (.v 5) (.call I.law_next [(.v 0), (.blt .len [(.v 5)])]))] [], .ite (.ands [(.isi (.v 1) [.tuple] true), (.cmp .ne (.v 1) (.tup [])), (.cmp .gt (.call I.law_next [(.v 0), (.c (.int 4))]) (.c (.int 0)))]) [.set 2 (.call I.law_next [(.v 0), (.blt .len [(.v 1)])]), .ret (.bin .add (.bin .add (.slcH (.v 1) (.v 2)) (.tup [(.call I.law_changed [(.v 0), (.sub (.v 1) (.v 2))])])) (.slcL (.v 1) (.bin .add (.v 2) (.c (.int 1)))))] [], .ite (.not (.isi (.v 1) [.tuple] true)) [.ret (.tup [])] [], .set 2 (.call I.law_next [(.v 0), (.bin .add (.blt .len [(.v 1)]) (.c (.int 1)))]), .set 3 (.call I.law_next [(.v 0), (.bin .add (.blt .len [(.v 1)]) (.c (.int 1)))]), .set 4 (.lst [(.bin .add (.slcH (.v 1) (.v 2)) (.slcL (.v 1) (.bin .add (.v 2) (.c (.int 1))))), (.bin .add (.v 1) (.slcH (.v 1) (.c (.int 1)))), (.rev (.v 1)), (.bin .add (.slcL (.v 1) (.v 2)) (.slcH (.v 1) (.v 2))), (.blt .list [(.v 1)]), (.slcH (.v 1) (.v 2)), (.tup []), (.bin .add (.v 1) (.tup [(.c (.int 0))]))]), .ite (.chn .lt .lt (.v 2) (.v 3) (.blt .len [(.v 1)])) [.set 4 (.bin .add (.v 4) (.lc [6] (.v 6) (.rng1 (.c (.int 3))) [] (.bin .add (.bin .add (.bin .add (.bin .add (.slcH (.v 1) (.v 2)) (.slcB (.v 1) (.v 3) (.bin .add (.v 3) (.c (.int 1))))) (.slcB (.v 1) (.bin .add (.v 2) (.c (.int 1))) (.v 3))) (.slcB (.v 1) (.v 2) (.bin .add (.v 2) (.c (.int 1))))) (.slcL (.v 1) (.bin .add (.v 3) (.c (.int 1)))))))] [], .ret (.sub (.v 4) (.call I.law_next [(.v 0), (.blt .len [(.v 4)])]))]⟩
def s_law_ints (I : Ix) : Fd := ⟨"_law_ints", 1, 4, [.ite (.ors [(.isi (.v 0) [.bool] true), (.not (.isi (.v 0) [.int, .tuple] false))]) [.ret (.lst [])] [], .ite (.isi (.v 0) [.int] true) [.ret (.lst [(.v 0)])] [], .set 1 (.lst []), .for (.v 2) (.val (.v 0)) [.set 1 (.bin .add (.v 1) (.lc [3] (.v 3) (.val (.call I.law_ints [(.v 2)])) [(.cmp .nin (.v 3) (.v 1))] (.v 3)))], .ret (.v 1)]⟩
def s_law_exchanged (I : Ix) : Fd := ⟨"_law_exchanged", 3, 4, [.ite (.ors [(.isi (.v 0) [.bool] true), (.not (.isi (.v 0) [.int, .tuple] false))]) [.ret (.v 0)] [], .ite (.isi (.v 0) [.int] true) [.ret (.ite (.cmp .eq (.v 0) (.v 1)) (.v 2) (.ite (.cmp .eq (.v 0) (.v 2)) (.v 1) (.v 0)))] [], .ret (.blt .tuple [(.lc [3] (.v 3) (.val (.v 0)) [] (.call I.law_exchanged [(.v 3), (.v 1), (.v 2)]))])]⟩
def s_law_cut (I : Ix) : Fd := ⟨"_law_cut", 2, 6, [.ite (.ors [(.not (.isi (.v 1) [.tuple] true)), (.cmp .eq (.v 1) (.tup []))]) [.ret (.v 1)] [], .ite (.cmp .ne (.lc [5] (.v 5) (.val (.v 1)) [(.not (.isi (.v 5) [.str] true))] (.v 5)) (.lst [])) [.set 2 (.call I.law_next [(.v 0), (.blt .len [(.v 1)])]), .ret (.bin .add (.bin .add (.slcH (.v 1) (.v 2)) (.tup [(.call I.law_cut [(.v 0), (.sub (.v 1) (.v 2))])])) (.slcL (.v 1) (.bin .add (.v 2) (.c (.int 1)))))] [], .set 2 (.call I.law_next [(.v 0), (.blt .len [(.v 1)])]), .set 3 (.call I.law_next [(.v 0), (.bin .add (.blt .len [(.sub (.v 1) (.v 2))]) (.c (.int 1)))]), .set 4 (.lst [(.bin .add (.bin .add (.slcH (.v 1) (.v 2)) (.tup [(.slcH (.sub (.v 1) (.v 2)) (.v 3)), (.slcL (.sub (.v 1) (.v 2)) (.v 3))])) (.slcL (.v 1) (.bin .add (.v 2) (.c (.int 1))))), (.bin .add (.bin .add (.slcH (.v 1) (.v 2)) (.tup [(.mth .join (.c (.str (PySem.Str.ofString ""))) [(.slcB (.v 1) (.v 2) (.bin .add (.v 2) (.c (.int 2))))])])) (.slcL (.v 1) (.bin .add (.v 2) (.c (.int 2)))))]), .set 4 (.bin .add (.v 4) (.lst [(.tup [(.mth .join (.c (.str (PySem.Str.ofString ""))) [(.v 1)])]), (.blt .tuple [(.mth .join (.c (.str (PySem.Str.ofString ""))) [(.v 1)])]), (.bin .add (.bin .add (.slcH (.v 1) (.v 2)) (.tup [(.c (.str (PySem.Str.ofString "")))])) (.slcL (.v 1) (.v 2))), (.bin .add (.bin .add (.slcH (.v 1) (.v 2)) (.rev (.slcB (.v 1) (.v 2) (.bin .add (.v 2) (.c (.int 2)))))) (.slcL (.v 1) (.bin .add (.v 2) (.c (.int 2)))))])), .ret (.sub (.v 4) (.call I.law_next [(.v 0), (.blt .len [(.v 4)])]))]⟩
def s_law_turned_about (I : Ix) : Fd := ⟨"_law_turned_about", 2, 9, [.set 2 (.call I.law_ints [(.v 1)]), .set 3 (.call I.law_next [(.v 0), (.c (.int 5))]), .ite (.ands [(.cmp .lt (.v 3) (.c (.int 3))), (.cmp .ne (.v 2) (.lst []))]) [.set 4 (.sub (.v 2) (.call I.law_next [(.v 0), (.blt .len [(.v 2)])])), .set 5 (.ite (.cmp .eq (.v 3) (.c (.int 0))) (.bin .add (.v 4) (.c (.int 1))) (.sub (.v 2) (.call I.law_next [(.v 0), (.blt .len [(.v 2)])]))), .ret (.call I.law_exchanged [(.v 1), (.v 4), (.v 5)])] [], .ite (.cmp .eq (.v 3) (.c (.int 3))) [.ret (.bin .add (.slcH (.v 1) (.c (.int 1))) (.ite (.cmp .gt (.blt .len [(.v 1)]) (.c (.int 2))) (.call I.law_cut [(.v 0), (.slcL (.v 1) (.c (.int 1)))]) (.blt .tuple [(.lc [8] (.v 8) (.val (.slcL (.v 1) (.c (.int 1)))) [] (.call I.law_cut [(.v 0), (.v 8)]))])))] [], .par2 6 7 (.call I.law_next [(.v 0), (.blt .len [(.v 1)])]) (.call I.law_next [(.v 0), (.blt .len [(.v 1)])]), .ite (.ands [(.cmp .eq (.blt .len [(.v 1)]) (.c (.int 2))), (.isi (.sub (.v 1) (.c (.int 1))) [.tuple] true), (.cmp .ne (.sub (.v 1) (.c (.int 1))) (.tup []))]) [.par2 6 7 (.call I.law_next [(.v 0), (.blt .len [(.sub (.v 1) (.c (.int 1)))])]) (.call I.law_next [(.v 0), (.blt .len [(.sub (.v 1) (.c (.int 1)))])]), .ret (.tup [(.sub (.v 1) (.c (.int 0))), (.bin .add (.bin .add (.slcH (.sub (.v 1) (.c (.int 1))) (.v 6)) (.slcB (.sub (.v 1) (.c (.int 1))) (.v 7) (.bin .add (.v 7) (.c (.int 1))))) (.slcL (.sub (.v 1) (.c (.int 1))) (.bin .add (.v 6) (.c (.int 1)))))])] [], .ret (.ite (.ands [(.cmp .gt (.v 6) (.c (.int 0))), (.cmp .gt (.v 7) (.c (.int 0)))]) (.bin .add (.bin .add (.slcH (.v 1) (.v 6)) (.slcB (.v 1) (.v 7) (.bin .add (.v 7) (.c (.int 1))))) (.slcL (.v 1) (.bin .add (.v 6) (.c (.int 1))))) (.v 1))]⟩
def s_law_odd (I : Ix) : Fd := ⟨"_law_odd", 2, 4, [.set 2 (.lst [(.c .none), (.c (.str (PySem.Str.ofString ""))), (.c (.str (PySem.Str.ofString "yes"))), .mtd, (.tup []), (.slcH (.v 1) (.c (.int 1))), (.blt .list [(.v 1)]), (.bin .add (.v 1) (.tup [(.c (.int 0))])), (.bin .add (.tup [(.lst [(.sub (.v 1) (.c (.int 0)))])]) (.slcL (.v 1) (.c (.int 1)))), (.bin .add (.tup [(.c (.str (PySem.Str.ofString "none such")))]) (.slcL (.v 1) (.c (.int 1)))), (.c (.int 7))]), .set 3 (.call I.law_next [(.v 0), (.c (.int 9))]), .ite (.cmp .gt (.v 3) (.c (.int 4))) [.ret (.call I.law_turned_about [(.v 0), (.v 1)])] [], .ret (.ite (.cmp .eq (.v 3) (.c (.int 0))) (.sub (.v 2) (.call I.law_next [(.v 0), (.blt .len [(.v 2)])])) (.call I.law_changed [(.v 0), (.v 1)]))]⟩
def s_law_gcd (I : Ix) : Fd := ⟨"_law_gcd", 2, 2, [.whl (.slot 1) (.cmp .ne (.v 1) (.c (.int 0))) [.par2 0 1 (.v 1) (.bin .mod (.v 0) (.v 1))], .ret (.ite (.cmp .gt (.v 0) (.c (.int 0))) (.v 0) (.bin .sub (.c (.int 0)) (.v 0)))]⟩
def s_law_of (I : Ix) : Fd := ⟨"_law_of", 2, 3, [.set 2 (.call I.law_gcd [(.v 0), (.v 1)]), .set 2 (.ite (.cmp .gt (.v 1) (.c (.int 0))) (.v 2) (.bin .sub (.c (.int 0)) (.v 2))), .ret (.tup [(.bin .fdiv (.v 0) (.v 2)), (.bin .fdiv (.v 1) (.v 2))])]⟩
def s_law_add (I : Ix) : Fd := ⟨"_law_add", 2, 2, [.ret (.call I.law_of [(.bin .add (.bin .mul (.sub (.v 0) (.c (.int 0))) (.sub (.v 1) (.c (.int 1)))) (.bin .mul (.sub (.v 1) (.c (.int 0))) (.sub (.v 0) (.c (.int 1))))), (.bin .mul (.sub (.v 0) (.c (.int 1))) (.sub (.v 1) (.c (.int 1))))])]⟩
def s_law_mul (I : Ix) : Fd := ⟨"_law_mul", 2, 2, [.ret (.call I.law_of [(.bin .mul (.sub (.v 0) (.c (.int 0))) (.sub (.v 1) (.c (.int 0)))), (.bin .mul (.sub (.v 0) (.c (.int 1))) (.sub (.v 1) (.c (.int 1))))])]⟩
def s_law_less (I : Ix) : Fd := ⟨"_law_less", 2, 2, [.ret (.cmp .lt (.bin .mul (.sub (.v 0) (.c (.int 0))) (.sub (.v 1) (.c (.int 1)))) (.bin .mul (.sub (.v 1) (.c (.int 0))) (.sub (.v 0) (.c (.int 1)))))]⟩
def s_law_total (I : Ix) : Fd := ⟨"_law_total", 1, 3, [.set 1 (.tup [(.c (.int 0)), (.c (.int 1))]), .for (.v 2) (.val (.v 0)) [.set 1 (.call I.law_add [(.v 1), (.v 2)])], .ret (.v 1)]⟩
def s_law_over (I : Ix) : Fd := ⟨"_law_over", 2, 2, [.ret (.ite (.cmp .gt (.sub (.v 1) (.c (.int 0))) (.c (.int 0))) (.call I.law_of [(.bin .mul (.sub (.v 0) (.c (.int 0))) (.sub (.v 1) (.c (.int 1)))), (.bin .mul (.sub (.v 0) (.c (.int 1))) (.sub (.v 1) (.c (.int 0))))]) (.call I.law_of [(.bin .sub (.c (.int 0)) (.bin .mul (.sub (.v 0) (.c (.int 0))) (.sub (.v 1) (.c (.int 1))))), (.bin .sub (.c (.int 0)) (.bin .mul (.sub (.v 0) (.c (.int 1))) (.sub (.v 1) (.c (.int 0)))))]))]⟩
def s_law_minus (I : Ix) : Fd := ⟨"_law_minus", 2, 2, [.ret (.call I.law_add [(.v 0), (.tup [(.bin .sub (.c (.int 0)) (.sub (.v 1) (.c (.int 0)))), (.sub (.v 1) (.c (.int 1)))])])]⟩
def s_law_parts (I : Ix) : Fd := ⟨"_law_parts", 3, 6, [.own 3 (.lc [4] (.v 4) (.rng1 (.v 1)) [] (.bin .add (.v 2) (.call I.law_next [(.v 0), (.c (.int 4))]))), .ite (.cmp .eq (.blt .sum [(.v 3)]) (.c (.int 0))) [.sit 3 (.call I.law_next [(.v 0), (.v 1)]) (.c (.int 1))] [], .frz 3, .ret (.blt .tuple [(.lc [5] (.v 5) (.val (.v 3)) [] (.call I.law_of [(.v 5), (.blt .sum [(.v 3)])]))])]⟩
-- not in the core: _law_solve (target)
def s_law_fraction (I : Ix) : Fd := ⟨"_law_fraction", 1, 1, [.ret (.call I.law_of [(.bin .sub (.call I.law_next [(.v 0), (.c (.int 13))]) (.c (.int 4))), (.bin .add (.c (.int 1)) (.call I.law_next [(.v 0), (.c (.int 3))]))])]⟩
def s_law_neighbour (I : Ix) : Fd := ⟨"_law_neighbour", 2, 6, [.ite (.isi (.v 1) [.bool, .str] false) [.ret (.v 1)] [], .set 2 (.sub (.lst [(.c (.int 1)), (.neg (.c (.int 1)))]) (.call I.law_next [(.v 0), (.c (.int 2))])), .ite (.isi (.v 1) [.int] true) [.ret (.bin .add (.v 1) (.v 2))] [], .ite (.ors [(.not (.isi (.v 1) [.tuple] true)), (.cmp .eq (.v 1) (.tup []))]) [.ret (.v 1)] [], .set 3 (.call I.law_next [(.v 0), (.blt .len [(.v 1)])]), .set 4 (.sub (.v 1) (.v 3)), .ite (.ands [(.isi (.v 4) [.int] true), (.cmp .gt (.call I.law_next [(.v 0), (.c (.int 3))]) (.c (.int 0)))]) [.ret (.bin .add (.bin .add (.slcH (.v 1) (.v 3)) (.tup [(.bin .add (.v 4) (.v 2))])) (.slcL (.v 1) (.bin .add (.v 3) (.c (.int 1)))))] [], .ite (.ands [(.isi (.v 4) [.tuple] true), (.cmp .eq (.blt .len [(.v 4)]) (.c (.int 2))), (.cmp .eq (.lc [5] (.v 5) (.val (.v 4)) [(.not (.isi (.v 5) [.int] true))] (.v 5)) (.lst [])), (.cmp .gt (.sub (.v 4) (.c (.int 1))) (.c (.int 0))), (.cmp .gt (.call I.law_next [(.v 0), (.c (.int 3))]) (.c (.int 0)))]) [.ret (.bin .add (.bin .add (.slcH (.v 1) (.v 3)) (.tup [(.tup [(.bin .add (.sub (.v 4) (.c (.int 0))) (.bin .mul (.v 2) (.sub (.v 4) (.c (.int 1))))), (.sub (.v 4) (.c (.int 1)))])])) (.slcL (.v 1) (.bin .add (.v 3) (.c (.int 1)))))] [], .ret (.bin .add (.slcH (.v 1) (.v 3)) (.slcL (.v 1) (.bin .add (.v 3) (.c (.int 1)))))]⟩
def s_law_all_names (I : Ix) : Fd := ⟨"_law_all_names", 1, 4, [.ite (.isi (.v 0) [.str] true) [.ret (.lst [(.v 0)])] [], .set 1 (.lst []), .for (.v 2) (.val (.ite (.isi (.v 0) [.tuple] true) (.v 0) (.tup []))) [.set 1 (.bin .add (.v 1) (.lc [3] (.v 3) (.val (.call I.law_all_names [(.v 2)])) [(.cmp .nin (.v 3) (.v 1))] (.v 3)))], .ret (.v 1)]⟩
def s_law_swapped (I : Ix) : Fd := ⟨"_law_swapped", 3, 4, [.ite (.isi (.v 0) [.str] true) [.ret (.ite (.cmp .eq (.v 0) (.v 1)) (.v 2) (.ite (.cmp .eq (.v 0) (.v 2)) (.v 1) (.v 0)))] [], .ret (.ite (.isi (.v 0) [.tuple] true) (.blt .tuple [(.lc [3] (.v 3) (.val (.v 0)) [] (.call I.law_swapped [(.v 3), (.v 1), (.v 2)]))]) (.v 0))]⟩
def s_law_is_whole (I : Ix) : Fd := ⟨"_law_is_whole", 1, 1, [.ret (.ands [(.isi (.v 0) [.int] true), (.not (.isi (.v 0) [.bool] true))])]⟩
def s_law_is_part (I : Ix) : Fd := ⟨"_law_is_part", 1, 1, [.ite (.ors [(.not (.isi (.v 0) [.tuple] true)), (.cmp .ne (.blt .len [(.v 0)]) (.c (.int 2))), (.not (.call I.law_is_whole [(.sub (.v 0) (.c (.int 0)))])), (.not (.call I.law_is_whole [(.sub (.v 0) (.c (.int 1)))]))]) [.ret (.c (.bool false))] [], .ret (.ands [(.cmp .gt (.sub (.v 0) (.c (.int 1))) (.c (.int 0))), (.cmp .eq (.call I.law_gcd [(.sub (.v 0) (.c (.int 0))), (.sub (.v 0) (.c (.int 1)))]) (.c (.int 1)))])]⟩
def s_law_are_parts (I : Ix) : Fd := ⟨"_law_are_parts", 2, 3, [.ret (.ands [(.isi (.v 0) [.tuple] true), (.cmp .eq (.blt .len [(.v 0)]) (.v 1)), (.cmp .eq (.lc [2] (.v 2) (.val (.v 0)) [(.not (.call I.law_is_part [(.v 2)]))] (.v 2)) (.lst []))])]⟩
def s_law_states (I : Ix) : Fd := ⟨"_law_states", 1, 3, [.ret (.lc [1, 2] (.t [(.v 1), (.v 2)]) (.val (.v 0)) [] (.v 1))]⟩
-- not in the core: _law_inner (call dict)
def s_law_chance (I : Ix) : Fd := ⟨"_law_chance", 1, 1, [.ret (.call I.law_of [(.call I.law_next [(.v 0), (.c (.int 5))]), (.c (.int 4))])]⟩
def s_whole (I : Ix) : Fd := ⟨"whole", 1, 1, [.ret (.tup [(.v 0), (.c (.int 1))])]⟩
def s_law_is_place (I : Ix) : Fd := ⟨"_law_is_place", 2, 2, [.ret (.ands [(.call I.law_is_whole [(.v 0)]), (.chn .le .lt (.c (.int 0)) (.v 0) (.v 1))])]⟩
def s_are_places (I : Ix) : Fd := ⟨"are_places", 2, 3, [.ret (.ands [(.isi (.v 0) [.tuple] true), (.cmp .nin (.c (.bool false)) (.lc [2] (.v 2) (.val (.v 0)) [] (.ands [(.call I.is_whole [(.v 2)]), (.chn .le .lt (.c (.int 0)) (.v 2) (.v 1))])))])]⟩
def s_are_fraction_rows (I : Ix) : Fd := ⟨"are_fraction_rows", 3, 4, [.ite (.ors [(.not (.isi (.v 0) [.tuple] true)), (.cmp .ne (.blt .len [(.v 0)]) (.v 1))]) [.ret (.c (.bool false))] [], .ret (.cmp .nin (.c (.bool false)) (.lc [3] (.v 3) (.val (.v 0)) [] (.call I.are_fractions [(.v 3), (.v 2)])))]⟩
def s_check_rows (I : Ix) : Fd := ⟨"check_rows", 2, 4, [.for (.v 2) (.val (.tup [(.v 0), (.v 1)])) [.ite (.ors [(.cmp .inn (.c (.bool true)) (.lc [3] (.v 3) (.val (.v 2)) [] (.call I.less [(.v 3), (.g 0)]))), (.cmp .ne (.call I.total [(.v 2)]) (.g 1))]) [.rse 0] []], .ite (.cmp .ne (.blt .len [(.v 0)]) (.blt .len [(.v 1)])) [.rse 0] [], .ite (.cmp .gt (.blt .len [(.v 0)]) (.c (.int 12))) [.rse 1] []]⟩
def s_law_are_places (I : Ix) : Fd := ⟨"_law_are_places", 2, 3, [.ret (.ands [(.isi (.v 0) [.tuple] true), (.cmp .eq (.lc [2] (.v 2) (.val (.v 0)) [(.not (.call I.law_is_place [(.v 2), (.v 1)]))] (.v 2)) (.lst []))])]⟩
def s_check_events (I : Ix) : Fd := ⟨"check_events", 1, 4, [.ite (.ors [(.cmp .inn (.c (.bool true)) (.lc [3] (.v 3) (.val (.v 0)) [] (.call I.less [(.v 3), (.g 0)]))), (.cmp .ne (.call I.total [(.v 0)]) (.g 1))]) [.rse 0] [], .set 1 (.c (.int 0)), .set 2 (.c (.int 1)), .whl (.num 4000) (.cmp .lt (.v 2) (.blt .len [(.v 0)])) [.par2 1 2 (.bin .add (.v 1) (.c (.int 1))) (.bin .mul (.c (.int 2)) (.v 2))], .ite (.cmp .ne (.v 2) (.blt .len [(.v 0)])) [.rse 0] [], .ite (.cmp .gt (.v 1) (.c (.int 4))) [.rse 1] [], .ret (.v 1)]⟩
def s_law_events (I : Ix) : Fd := ⟨"_law_events", 2, 12, [.set 2 (.sub (.lst [(.c (.int 1)), (.c (.int 2)), (.c (.int 4)), (.c (.int 8))]) (.v 1)), .set 3 (.call I.law_next [(.v 0), (.c (.int 3))]), .ite (.cmp .eq (.v 3) (.c (.int 0))) [.set 4 (.lc [10] (.v 10) (.rng1 (.v 1)) [] (.call I.law_chance [(.v 0)])), .own 5 (.lst []), .for (.v 6) (.rng1 (.v 2)) [.set 9 (.tup [(.c (.int 1)), (.c (.int 1))]), .for (.v 10) (.rng1 (.v 1)) [.set 9 (.call I.law_mul [(.v 9), (.ite (.call I.law_comes_in [(.v 6), (.v 10)]) (.sub (.v 4) (.v 10)) (.call I.law_minus [(.tup [(.c (.int 1)), (.c (.int 1))]), (.sub (.v 4) (.v 10))]))])], .app 5 (.v 9)], .frz 5, .ret (.blt .tuple [(.v 5)])] [], .ite (.cmp .eq (.v 3) (.c (.int 1))) [.set 7 (.lc [10] (.v 10) (.rng1 (.bin .add (.v 1) (.c (.int 1)))) [] (.bin .add (.c (.int 1)) (.call I.law_next [(.v 0), (.c (.int 3))]))), .set 8 (.lc [6] (.v 6) (.rng1 (.v 2)) [] (.sub (.v 7) (.blt .len [(.lc [10] (.v 10) (.rng1 (.v 1)) [(.call I.law_comes_in [(.v 6), (.v 10)])] (.v 10))]))), .ret (.blt .tuple [(.lc [11] (.v 11) (.val (.v 8)) [] (.call I.law_of [(.v 11), (.blt .sum [(.v 8)])]))])] [], .ret (.call I.law_parts [(.v 0), (.v 2), (.c (.int 0))])]⟩
def s_law_comes_in (I : Ix) : Fd := ⟨"_law_comes_in", 2, 2, [.ret (.cmp .eq (.bin .mod (.bin .fdiv (.v 0) (.sub (.lst [(.c (.int 1)), (.c (.int 2)), (.c (.int 4)), (.c (.int 8))]) (.v 1))) (.c (.int 2))) (.c (.int 1)))]⟩
-- not in the core: _law_count (method [1, 2, 4, 8].index)
end Cw

namespace Cw
def lcR (cf : CallF) (B : Lent) (p : Pat) (cs : List Ex) (e : Ex) (ρ : Rho) (xs : List D) (S : Sta) : Res (List D) := lcLoop (bindP p) (fun r T => eCs cf B cs r T) (fun r T => eE cf B e r T) ρ xs S
def lcT (cf : CallF) (B : Lent) (own1 : List Nat) (p1 : Pat) (s1 : Src) (cs1 : List Ex) (e : Ex) (r : Rho) (T : Sta) : Res (List D) := (eSrc cf B true s1 r T).bind fun ys T1 => lcR cf B p1 cs1 e (wipeR r own1) ys T1
def lcF (cf : CallF) (B : Lent) (own1 : List Nat) (p : Pat) (cs : List Ex) (p1 : Pat) (s1 : Src) (cs1 : List Ex) (e : Ex) (ρ : Rho) (xs : List D) (S : Sta) : Res (List D) := lcFlat (bindP p) (fun r T => eCs cf B cs r T) (fun r T => lcT cf B own1 p1 s1 cs1 e r T) ρ xs S
def forR (cf : CallF) (B : Lent) (p : Pat) (b : List Sm) (xs : List D) (ρ : Rho) (S : Sta) : Out := forL (bindP p) (fun r T => xSs cf B b r T) xs ρ S
def whlR (cf : CallF) (B : Lent) (c : Ex) (b : List Sm) (k : Nat) (ρ : Rho) (S : Sta) : Out := whlL (fun r T => (eE cf B c r T).bind fun v T1 => Res.of (truth B v) T1) (fun r T => xSs cf B b r T) k ρ S
section
variable {cf : CallF} {B : Lent} {ρ : Rho} {S : Sta}
@[simp] theorem ev_bok {α β : Type} {a : α} {S : Sta} {f : α → Sta → Res β} : (Res.ok a S).bind f = f a S := rfl
@[simp] theorem ev_bex {α β : Type} {c : Nat} {S : Sta} {f : α → Sta → Res β} : (Res.exc c S : Res α).bind f = .exc c S := rfl
@[simp] theorem ev_ofs {α : Type} {a : α} {S : Sta} : Res.of (some a) S = .ok a S := rfl
@[simp] theorem ev_ook {α : Type} {a : α} {S : Sta} {ρ : Rho} {f : α → Sta → Out} : (Res.ok a S).out ρ f = f a S := rfl
@[simp] theorem ev_oex {α : Type} {c : Nat} {S : Sta} {ρ : Rho} {f : α → Sta → Out} : (Res.exc c S : Res α).out ρ f = .exc c ρ S := rfl
@[simp] theorem ev_snx {ρ : Rho} {S : Sta} {f : Rho → Sta → Out} : (Out.nx ρ S).seq f = f ρ S := rfl
@[simp] theorem ev_srt {d : D} {S : Sta} {f : Rho → Sta → Out} : (Out.rt d S).seq f = .rt d S := rfl
@[simp] theorem ev_sex {c : Nat} {ρ : Rho} {S : Sta} {f : Rho → Sta → Out} : (Out.exc c ρ S).seq f = .exc c ρ S := rfl
@[simp] theorem ev_frt {d : D} {S : Sta} : (Out.rt d S).fin = .ok d S := rfl
@[simp] theorem ev_fnx {ρ : Rho} {S : Sta} : (Out.nx ρ S).fin = .ok .none S := rfl
@[simp] theorem ev_fex {c : Nat} {ρ : Rho} {S : Sta} : (Out.exc c ρ S).fin = .exc c S := rfl
@[simp] theorem ev_str {α : Type} {a : α} {S : Sta} : (Res.ok a S).strict = .ok a S := rfl
@[simp] theorem ev_c {d : D} : eE cf B (.c d) ρ S = .ok (.dat d) S := rfl
@[simp] theorem ev_g {k : Nat} : eE cf B (.g k) ρ S = .ok (.dat (gval k)) S := rfl
theorem ev_v {i : Nat} {e : EV} (h : ρ[i]? = some (some e)) : eE cf B (.v i) ρ S = .ok e S := by
  show (match ρ[i]? with
    | some (some e) => Res.ok e S
    | _ => .bad) = _
  rw [h]
@[simp] theorem ev_v0 {e : EV} {r : Rho} : eE cf B (.v 0) (some e :: r) S = .ok e S := rfl
@[simp] theorem ev_vs {i : Nat} {o : Option EV} {r : Rho} : eE cf B (.v (i + 1)) (o :: r) S = eE cf B (.v i) r S := rfl
@[simp] theorem ev_tup {es : List Ex} : eE cf B (.tup es) ρ S = (eEs cf B es ρ S).bind fun vs S1 => Res.of ((dats vs).bind fun ds => if lenOk ds.length then some (.dat (.tuple ds)) else none) S1 := rfl
@[simp] theorem ev_lst {es : List Ex} : eE cf B (.lst es) ρ S = (eEs cf B es ρ S).bind fun vs S1 => Res.of ((dats vs).bind fun ds => if lenOk ds.length then some (.dat (.list ds)) else none) S1 := rfl
@[simp] theorem ev_bin {o : Op2} {a b : Ex} : eE cf B (.bin o a b) ρ S = (eE cf B a ρ S).bind fun x S1 => (eE cf B b ρ S1).bind fun y S2 => Res.of (binE B o x y) S2 := rfl
@[simp] theorem ev_neg {a : Ex} : eE cf B (.neg a) ρ S = (eE cf B a ρ S).bind fun x S1 => Res.of ((intOf x).map fun i => .dat (.int (-i))) S1 := rfl
@[simp] theorem ev_not {a : Ex} : eE cf B (.not a) ρ S = (eE cf B a ρ S).bind fun x S1 => Res.of ((truth B x).map fun b => .dat (.bool (!b))) S1 := rfl
@[simp] theorem ev_ands1 {e : Ex} : eE cf B (.ands [e]) ρ S = eE cf B e ρ S := rfl
@[simp] theorem ev_ors1 {e : Ex} : eE cf B (.ors [e]) ρ S = eE cf B e ρ S := rfl
@[simp] theorem ev_ands {e e2 : Ex} {es : List Ex} : eE cf B (.ands (e :: e2 :: es)) ρ S = (eE cf B e ρ S).bind fun v S1 => (Res.of (truth B v) S1).bind fun k S2 => if k then eE cf B (.ands (e2 :: es)) ρ S2 else .ok v S2 := rfl
@[simp] theorem ev_ors {e e2 : Ex} {es : List Ex} : eE cf B (.ors (e :: e2 :: es)) ρ S = (eE cf B e ρ S).bind fun v S1 => (Res.of (truth B v) S1).bind fun k S2 => if k then .ok v S2 else eE cf B (.ors (e2 :: es)) ρ S2 := rfl
@[simp] theorem ev_cmp {o : Cmp} {a b : Ex} : eE cf B (.cmp o a b) ρ S = (eE cf B a ρ S).bind fun x S1 => (eE cf B b ρ S1).bind fun y S2 => Res.of ((cmpE B o x y).map fun b => .dat (.bool b)) S2 := rfl
@[simp] theorem ev_chn {o p : Cmp} {a b c : Ex} : eE cf B (.chn o p a b c) ρ S = (eE cf B a ρ S).bind fun x S1 => (eE cf B b ρ S1).bind fun y S2 => (Res.of (cmpE B o x y) S2).bind fun k S3 =>
      if k then (eE cf B c ρ S3).bind fun z S4 => Res.of ((cmpE B p y z).map fun b => .dat (.bool b)) S4 else .ok (.dat (.bool false)) S3 := rfl
@[simp] theorem ev_ite {c a b : Ex} : eE cf B (.ite c a b) ρ S = (eE cf B c ρ S).bind fun x S1 => (Res.of (truth B x) S1).bind fun k S2 => if k then eE cf B a ρ S2 else eE cf B b ρ S2 := rfl
@[simp] theorem ev_sub {a i : Ex} : eE cf B (.sub a i) ρ S = (eE cf B a ρ S).bind fun x S1 => (eE cf B i ρ S1).bind fun y S2 => Res.of (subE B S2 x y) S2 := rfl
@[simp] theorem ev_slc {a : Ex} : eE cf B (.slc a) ρ S = (eE cf B a ρ S).bind fun x S1 => Res.of (slcE B x none none) S1 := rfl
@[simp] theorem ev_slcL {a lo : Ex} : eE cf B (.slcL a lo) ρ S = (eE cf B a ρ S).bind fun x S1 => (eE cf B lo ρ S1).bind fun l S2 => Res.of ((intOf l).bind fun i => slcE B x (some i) none) S2 := rfl
@[simp] theorem ev_slcH {a hi : Ex} : eE cf B (.slcH a hi) ρ S = (eE cf B a ρ S).bind fun x S1 => (eE cf B hi ρ S1).bind fun h S2 => Res.of ((intOf h).bind fun j => slcE B x none (some j)) S2 := rfl
@[simp] theorem ev_slcB {a lo hi : Ex} : eE cf B (.slcB a lo hi) ρ S = (eE cf B a ρ S).bind fun x S1 => (eE cf B lo ρ S1).bind fun l S2 => (Res.of (intOf l) S2).bind fun i S3 => (eE cf B hi ρ S3).bind fun h S4 => Res.of ((intOf h).bind fun j => slcE B x (some i) (some j)) S4 := rfl
@[simp] theorem ev_rev {a : Ex} : eE cf B (.rev a) ρ S = (eE cf B a ρ S).bind fun x S1 => Res.of (revE B x) S1 := rfl
@[simp] theorem ev_call {f : Nat} {es : List Ex} : eE cf B (.call f es) ρ S = (eEs cf B es ρ S).bind fun vs S1 => (Res.of (passA B 0 vs) S1).bind fun p S2 => (cf f p.1 p.2 S2).bind fun d S3 => .ok (.dat d) S3 := rfl
@[simp] theorem ev_blt {f : Blt} {es : List Ex} : eE cf B (.blt f es) ρ S = (eEs cf B es ρ S).bind fun vs S1 => Res.of (bltE B S1 f vs) S1 := rfl
@[simp] theorem ev_isi {a : Ex} {ts : List Ty} {o : Bool} : eE cf B (.isi a ts o) ρ S = (eE cf B a ρ S).bind fun x S1 => Res.of ((tyAny x ts).map fun b => .dat (.bool b)) S1 := rfl
@[simp] theorem ev_mth {m : Mth} {a : Ex} {es : List Ex} : eE cf B (.mth m a es) ρ S = (eE cf B a ρ S).bind fun x S1 => (eEs cf B es ρ S1).bind fun vs S2 => Res.of (mthE B m x vs) S2 := rfl
@[simp] theorem ev_mtd : eE cf B .mtd ρ S = .ok (.dat (.dict [])) S := rfl
@[simp] theorem ev_lc {own : List Nat} {p : Pat} {s : Src} {cs : List Ex} {e : Ex} : eE cf B (.lc own p s cs e) ρ S = (eSrc cf B false s ρ S).bind fun xs S1 => (lcR cf B p cs e (wipeR ρ own) xs S1).strict.bind fun ds S2 => if lenOk ds.length then .ok (.dat (.list ds)) S2 else .bad := rfl
@[simp] theorem ev_lc2 {own own1 : List Nat} {p p1 : Pat} {s s1 : Src} {cs cs1 : List Ex} {e : Ex} : eE cf B (.lc2 own own1 p s cs p1 s1 cs1 e) ρ S = (eSrc cf B false s ρ S).bind fun xs S1 => (lcF cf B own1 p cs p1 s1 cs1 e (wipeR ρ own) xs S1).strict.bind fun ds S2 => if lenOk ds.length then .ok (.dat (.list ds)) S2 else .bad := rfl
theorem lcR_nil {p : Pat} {cs : List Ex} {e : Ex} : lcR cf B p cs e ρ [] S = .ok [] S := rfl
theorem lcR_cons {p : Pat} {cs : List Ex} {e : Ex} {x : D} {xs : List D} : lcR cf B p cs e ρ (x :: xs) S = match bindP p x ρ with
    | none => .bad
    | some ρ' => (eCs cf B cs ρ' S).bind fun b S1 => if b then (eE cf B e ρ' S1).bind fun v S2 => match v with
        | .dat d => (lcR cf B p cs e ρ xs S2).bind fun ds S3 => .ok (d :: ds) S3
        | _ => .bad
      else lcR cf B p cs e ρ xs S1 := rfl
theorem lcF_nil {own1 : List Nat} {p p1 : Pat} {s1 : Src} {cs cs1 : List Ex} {e : Ex} : lcF cf B own1 p cs p1 s1 cs1 e ρ [] S = .ok [] S := rfl
theorem lcF_cons {own1 : List Nat} {p p1 : Pat} {s1 : Src} {cs cs1 : List Ex} {e : Ex} {x : D} {xs : List D} : lcF cf B own1 p cs p1 s1 cs1 e ρ (x :: xs) S = match bindP p x ρ with
    | none => .bad
    | some ρ' => (eCs cf B cs ρ' S).bind fun b S1 => if b then (lcT cf B own1 p1 s1 cs1 e ρ' S1).bind fun ds S2 => (lcF cf B own1 p cs p1 s1 cs1 e ρ xs S2).bind fun es S3 => .ok (ds ++ es) S3
      else lcF cf B own1 p cs p1 s1 cs1 e ρ xs S1 := rfl
theorem forR_nil {p : Pat} {b : List Sm} : forR cf B p b [] ρ S = .nx ρ S := rfl
theorem forR_cons {p : Pat} {b : List Sm} {x : D} {xs : List D} : forR cf B p b (x :: xs) ρ S = match bindP p x ρ with
    | none => .bad
    | some ρ1 => match xSs cf B b ρ1 S with
      | .nx ρ2 S2 => forR cf B p b xs ρ2 S2
      | .ct ρ2 S2 => forR cf B p b xs ρ2 S2
      | .bk ρ2 S2 => .nx ρ2 S2
      | o => o := rfl
theorem whlR_succ {c : Ex} {b : List Sm} {k : Nat} : whlR cf B c b (k + 1) ρ S = ((eE cf B c ρ S).bind fun v T1 => Res.of (truth B v) T1).out ρ fun t S1 => if t then
      match xSs cf B b ρ S1 with
        | .nx ρ2 S2 => whlR cf B c b k ρ2 S2
        | .ct ρ2 S2 => whlR cf B c b k ρ2 S2
        | .bk ρ2 S2 => .nx ρ2 S2
        | o => o
      else .nx ρ S1 := rfl
@[simp] theorem bp_v {i : Nat} {d : D} : bindP (.v i) d ρ = some (ρ.set i (some (.dat d))) := rfl
@[simp] theorem ev_nil : eEs cf B [] ρ S = .ok [] S := rfl
@[simp] theorem ev_cons {e : Ex} {es : List Ex} : eEs cf B (e :: es) ρ S = (eE cf B e ρ S).bind fun v S1 => (eEs cf B es ρ S1).bind fun vs S2 => .ok (v :: vs) S2 := rfl
@[simp] theorem ev_cnil : eCs cf B [] ρ S = .ok true S := rfl
@[simp] theorem ev_cone {e : Ex} : eCs cf B [e] ρ S = (eE cf B e ρ S).bind fun v S1 => Res.of (truth B v) S1 := rfl
@[simp] theorem ev_sval {st : Bool} {e : Ex} : eSrc cf B st (.val e) ρ S = (eE cf B e ρ S).bind fun v S1 => Res.of (stabL st v (srcItems B v)) S1 := rfl
@[simp] theorem ev_srng1 {st : Bool} {e : Ex} : eSrc cf B st (.rng1 e) ρ S = (eE cf B e ρ S).bind fun v S1 => Res.of (rng1Of v) S1 := rfl
@[simp] theorem ev_srng2 {st : Bool} {a b : Ex} : eSrc cf B st (.rng2 a b) ρ S = (eE cf B a ρ S).bind fun v S1 => (eE cf B b ρ S1).bind fun w S2 => Res.of (rng2Of v w) S2 := rfl
/-! statements -/
@[simp] theorem xv_nil : xSs cf B [] ρ S = .nx ρ S := rfl
@[simp] theorem xv_cons {s : Sm} {r : List Sm} : xSs cf B (s :: r) ρ S = (xS cf B s ρ S).seq fun ρ1 S1 => xSs cf B r ρ1 S1 := rfl
@[simp] theorem xv_ex {e : Ex} : xS cf B (.ex e) ρ S = (eE cf B e ρ S).out ρ fun _ S1 => .nx ρ S1 := rfl
@[simp] theorem xv_set {i : Nat} {e : Ex} : xS cf B (.set i e) ρ S = (eE cf B e ρ S).out ρ fun v S1 => (Res.of (keepE v) S1).out ρ fun w S2 => .nx (ρ.set i (some w)) S2 := rfl
@[simp] theorem xv_own {i : Nat} {e : Ex} : xS cf B (.own i e) ρ S = (eE cf B e ρ S).out ρ fun v S1 => (Res.of (ownE v) S1).out ρ fun w S2 => .nx (ρ.set i (some w)) S2 := rfl
@[simp] theorem xv_frz {i : Nat} : xS cf B (.frz i) ρ S = (Res.of ((slotE ρ i).bind frzE) S).out ρ fun w S1 => .nx (ρ.set i (some w)) S1 := rfl
@[simp] theorem xv_par2 {i j : Nat} {a b : Ex} : xS cf B (.par2 i j a b) ρ S = (eE cf B a ρ S).out ρ fun v S1 => (eE cf B b ρ S1).out ρ fun w S2 =>
      (Res.of ((datE v).bind fun d => (datE w).map fun e => (d, e)) S2).out ρ fun p S3 => .nx ((ρ.set i (some (.dat p.1))).set j (some (.dat p.2))) S3 := rfl
@[simp] theorem xv_unp {ps : List Pat} {e : Ex} : xS cf B (.unp ps e) ρ S = (eE cf B e ρ S).out ρ fun v S1 => (Res.of ((datE v).bind fun d => bindP (.t ps) d ρ) S1).out ρ fun ρ' S2 => .nx ρ' S2 := rfl
@[simp] theorem xv_sit {i : Nat} {k e : Ex} : xS cf B (.sit i k e) ρ S = (eE cf B e ρ S).out ρ fun v S1 => (Res.of ((datE v).bind fun d => (slotE ρ i).map fun x => (d, x)) S1).out ρ fun q S2 => (eE cf B k ρ S2).out ρ fun w S3 =>
      (Res.of (setE S3 q.2 w q.1) S3).out ρ fun p _ => .nx (ρ.set i (some p.1)) p.2 := rfl
@[simp] theorem xv_augs {i k : Nat} {e : Ex} : xS cf B (.augs i k e) ρ S = (Res.of ((slotE ρ i).bind fun x => (getN S x k).map fun a => (a, x)) S).out ρ fun q S1 => (eE cf B e ρ S1).out ρ fun y S2 =>
      (Res.of ((intOf y).bind fun b => setE S2 q.2 (.dat (.int k)) (.int (q.1 + b))) S2).out ρ fun p _ => .nx (ρ.set i (some p.1)) p.2 := rfl
@[simp] theorem xv_aug {i : Nat} {e : Ex} : xS cf B (.aug i e) ρ S = (Res.of ((slotE ρ i).bind intOf) S).out ρ fun a S1 => (eE cf B e ρ S1).out ρ fun y S2 => (Res.of (intOf y) S2).out ρ fun b S3 => .nx (ρ.set i (some (.dat (.int (a + b))))) S3 := rfl
@[simp] theorem xv_ite {c : Ex} {a b : List Sm} : xS cf B (.ite c a b) ρ S = (eE cf B c ρ S).out ρ fun v S1 => (Res.of (truth B v) S1).out ρ fun k S2 => if k then xSs cf B a ρ S2 else xSs cf B b ρ S2 := rfl
@[simp] theorem xv_for {p : Pat} {s : Src} {b : List Sm} : xS cf B (.for p s b) ρ S = (eSrc cf B true s ρ S).out ρ fun xs S1 => forR cf B p b xs ρ S1 := rfl
@[simp] theorem xv_whl {m : Fuel} {c : Ex} {b : List Sm} : xS cf B (.whl m c b) ρ S = whlR cf B c b (fuelOf ρ m) ρ S := rfl
@[simp] theorem xv_ret {e : Ex} : xS cf B (.ret e) ρ S = (eE cf B e ρ S).out ρ fun v S1 => (Res.of (datE v) S1).out ρ fun d S2 => .rt d S2 := rfl
@[simp] theorem xv_rse {c : Nat} : xS cf B (.rse c) ρ S = .exc c ρ S := rfl
end
theorem run_at {Δ : List Fd} {n i : Nat} {d : Fd} {vs : List EV} {B : Lent} {S : Sta} (h : Δ[i]? = some d) (hl : vs.length = d.np) : run Δ (n + 1) i vs B S = (xSs (run Δ n) B d.body (vs.map some ++ List.replicate (d.nn - d.np) none) S).fin := by
  show (match Δ[i]? with
    | none => Res.bad
    | some d => if vs.length == d.np then (xSs (run Δ n) B d.body (vs.map some ++ List.replicate (d.nn - d.np) none) S).fin else .bad) = _
  rw [h]
  show (if (vs.length == d.np) = true then _ else _) = _
  rw [if_pos (by rw [hl]; exact beq_self_eq_true _)]
/-! values -/
@[simp] theorem vv_p0 {B : Lent} {n : Nat} : passA B n [] = some ([], []) := rfl
@[simp] theorem vv_pd {B : Lent} {n : Nat} {d : D} {r : List EV} : passA B n (.dat d :: r) = (passA B n r).map fun p => (.dat d :: p.1, p.2) := rfl
@[simp] theorem vv_ps {B : Lent} {n : Nat} {r : List EV} : passA B n (.st :: r) = (passA B n r).map fun p => (.st :: p.1, p.2) := rfl
@[simp] theorem vv_add {B : Lent} {i j : Int} : binE B .add (.dat (.int i)) (.dat (.int j)) = some (.dat (.int (i + j))) := rfl
@[simp] theorem vv_sub {B : Lent} {i j : Int} : binE B .sub (.dat (.int i)) (.dat (.int j)) = some (.dat (.int (i - j))) := rfl
theorem vv_mul {B : Lent} {i j : Int} (h1 : fit i = true) (h2 : fit j = true) : binE B .mul (.dat (.int i)) (.dat (.int j)) = some (.dat (.int (i * j))) := by
  show (if (fit i && fit j) = true then _ else _) = _
  rw [h1, h2]
  rfl
theorem vv_fdiv {B : Lent} {i j : Int} (h1 : j ≠ 0) (h2 : fit j = true) : binE B .fdiv (.dat (.int i)) (.dat (.int j)) = some (.dat (.int (i.fdiv j))) := by
  show (if (j != 0 && fit j) = true then _ else _) = _
  rw [h2, if_pos (by simpa using h1)]
theorem vv_mod {B : Lent} {i j : Int} (h1 : j ≠ 0) : binE B .mod (.dat (.int i)) (.dat (.int j)) = some (.dat (.int (i.fmod j))) := by
  show (if (j != 0) = true then _ else _) = _
  rw [if_pos (by simpa using h1)]
@[simp] theorem vv_lt {B : Lent} {i j : Int} : cmpE B .lt (.dat (.int i)) (.dat (.int j)) = some (decide (i < j)) := rfl
@[simp] theorem vv_le {B : Lent} {i j : Int} : cmpE B .le (.dat (.int i)) (.dat (.int j)) = some (decide (i ≤ j)) := rfl
@[simp] theorem vv_gt {B : Lent} {i j : Int} : cmpE B .gt (.dat (.int i)) (.dat (.int j)) = some (decide (j < i)) := rfl
@[simp] theorem vv_ge {B : Lent} {i j : Int} : cmpE B .ge (.dat (.int i)) (.dat (.int j)) = some (decide (j ≤ i)) := rfl
@[simp] theorem vv_eqi {B : Lent} {i j : Int} : cmpE B .eq (.dat (.int i)) (.dat (.int j)) = some (i == j) := rfl
@[simp] theorem vv_nei {B : Lent} {i j : Int} : cmpE B .ne (.dat (.int i)) (.dat (.int j)) = some (!(i == j)) := rfl
@[simp] theorem vv_tb {B : Lent} {b : Bool} : truth B (.dat (.bool b)) = some b := rfl
@[simp] theorem vv_ti {B : Lent} {i : Int} : truth B (.dat (.int i)) = some (i != 0) := rfl
@[simp] theorem vv_tt {B : Lent} {xs : List D} : truth B (.dat (.tuple xs)) = some (!xs.isEmpty) := rfl
@[simp] theorem vv_tl {B : Lent} {xs : List D} : truth B (.dat (.list xs)) = some (!xs.isEmpty) := rfl
@[simp] theorem vv_io {i : Int} : intOf (.dat (.int i)) = some i := rfl
@[simp] theorem vv_do {d : D} : datE (.dat d) = some d := rfl
@[simp] theorem vv_ko {d : D} : keepE (.dat d) = some (.dat d) := rfl
@[simp] theorem vv_d0 : dats [] = some [] := rfl
@[simp] theorem vv_d1 {d : D} {r : List EV} : dats (.dat d :: r) = (dats r).map (d :: ·) := rfl
theorem vv_sub_t {B : Lent} {S : Sta} {xs : List D} {i : Int} : subE B S (.dat (.tuple xs)) (.dat (.int i)) = (L2.atI xs i).map .dat := rfl
theorem at_nat {xs : List D} {k : Nat} {d : D} (h : xs[k]? = some d) : L2.atI xs (k : Int) = some d := by
  have hk : k < xs.length := (List.getElem?_eq_some_iff.mp h).1
  unfold L2.atI L2.ixN
  rw [if_pos (by omega), if_pos (by omega)]
  simpa using h
@[simp] theorem vv_sub0 {B : Lent} {S : Sta} {x : D} {xs : List D} : subE B S (.dat (.tuple (x :: xs))) (.dat (.int 0)) = some (.dat x) := by
  rw [vv_sub_t, show (0 : Int) = ((0 : Nat) : Int) from rfl, at_nat (d := x) rfl]
  rfl
@[simp] theorem vv_sub1 {B : Lent} {S : Sta} {x y : D} {xs : List D} : subE B S (.dat (.tuple (x :: y :: xs))) (.dat (.int 1)) = some (.dat y) := by
  rw [vv_sub_t, show (1 : Int) = ((1 : Nat) : Int) from rfl, at_nat (d := y) rfl]
  rfl
@[simp] theorem vv_len {B : Lent} {S : Sta} {xs : List D} : bltE B S .len [.dat (.tuple xs)] = some (.dat (.int (xs.length : Nat))) := rfl
@[simp] theorem vv_lenl {B : Lent} {S : Sta} {xs : List D} : bltE B S .len [.dat (.list xs)] = some (.dat (.int (xs.length : Nat))) := rfl
@[simp] theorem vv_abs {B : Lent} {S : Sta} {i : Int} : bltE B S .abs [.dat (.int i)] = some (.dat (.int (if i < 0 then -i else i))) := rfl
theorem less_run {Δ : List Fd} {I : Ix} {n : Nat} {B : Lent} {S : Sta} {a b c d : Int} (h : Δ[I.less]? = some (s_less I)) (ha : fit a = true) (hb : fit b = true) (hc : fit c = true) (hd : fit d = true) :
    run Δ (n + 1) I.less [.dat (.tuple [.int a, .int b]), .dat (.tuple [.int c, .int d])] B S = .ok (.bool (decide (a * d < c * b))) S := by
  rw [run_at h rfl]
  simp [s_less, vv_mul, ha, hb, hc, hd]
end Cw

namespace Cw
@[simp] theorem lenOk_eq {n : Nat} : lenOk n = decide (n ≤ 1000000) := by
  show Nat.ble n 1000000 = _
  cases h : Nat.ble n 1000000 with
  | true => exact (decide_eq_true (Nat.le_of_ble_eq_true h)).symm
  | false =>
    refine (decide_eq_false fun z => ?_).symm
    rw [Nat.ble_eq_true_of_le z] at h
    cases h
theorem fit_of {i : Int} (h : i.natAbs < 2 ^ 8000) : fit i = true := by
  show Nat.blt i.natAbs.log2 8000 = true
  rw [Nat.blt_eq]
  by_cases h0 : i.natAbs = 0
  · rw [h0, Nat.log2_zero]
    omega
  · exact (Nat.log2_lt h0).mpr h
theorem fmod_lt {a b : Int} (h : b ≠ 0) : (a.fmod b).natAbs < b.natAbs := by
  rw [Int.fmod_eq_emod]
  have h1 := Int.emod_nonneg a h
  have h2 := Int.emod_lt a h
  split
  · omega
  · rename_i hn
    have h3 : ¬ 0 ≤ b := fun z => hn (.inl z)
    have h4 : a % b ≠ 0 := fun z => hn (.inr (Int.dvd_of_emod_eq_zero z))
    omega
theorem gcd_fmod (a b : Int) : Int.gcd b (a.fmod b) = Int.gcd a b := by
  rw [Int.fmod_def, Int.gcd_sub_mul_left_right, Int.gcd_comm]
abbrev gc : Ex := .cmp .ne (.v 1) (.c (.int 0))
abbrev gb : List Sm := [.par2 0 1 (.v 1) (.bin .mod (.v 0) (.v 1))]
theorem gcd_loop {cf : CallF} {B : Lent} {S : Sta} : ∀ (k : Nat) (a b : Int), b.natAbs < k → ∃ g : Int, g.natAbs = Int.gcd a b ∧
    whlR cf B gc gb k [some (.dat (.int a)), some (.dat (.int b))] S = .nx [some (.dat (.int g)), some (.dat (.int 0))] S
  | 0, _, _, h => absurd h (Nat.not_lt_zero _)
  | k + 1, a, b, h => by
    by_cases hb : b = 0
    · subst hb
      exact ⟨a, by rw [Int.gcd_zero_right], by rw [whlR_succ]; simp⟩
    · obtain ⟨g, h1, h2⟩ := gcd_loop (cf := cf) (B := B) (S := S) k b (a.fmod b) (by have := fmod_lt (a := a) hb; omega)
      refine ⟨g, by rw [h1, gcd_fmod], ?_⟩
      rw [whlR_succ]
      simp only [ev_cmp, ev_v0, ev_vs, ev_c, ev_bok, vv_nei, Option.map_some, ev_ofs, vv_tb, ev_ook]
      have hb' : (b == 0) = false := by simpa using hb
      rw [hb']
      simp only [Bool.not_false, if_true, xv_cons, xv_nil, xv_par2, ev_v0, ev_vs, ev_ook, ev_bin, ev_bok, vv_mod hb, ev_ofs, vv_do, Option.bind_some, Option.map_some, ev_snx, List.set_cons_zero, List.set_cons_succ]
      exact h2
theorem abs_eq (g : Int) : (if g < 0 then -g else g) = (g.natAbs : Int) := by
  split <;> omega
section
variable {Δ : List Fd} {I : Ix} {n : Nat} {B : Lent} {S : Sta}
theorem divisor_run (h : Δ[I.divisor]? = some (s_divisor I)) (a b : Int) : run Δ (n + 1) I.divisor [.dat (.int a), .dat (.int b)] B S = .ok (.int (Int.gcd a b)) S := by
  rw [run_at h rfl]
  obtain ⟨g, h1, h2⟩ := gcd_loop (cf := run Δ n) (B := B) (S := S) (b.natAbs + 2) a b (by omega)
  show ((whlR (run Δ n) B gc gb (b.natAbs + 2) [some (.dat (.int a)), some (.dat (.int b))] S).seq fun ρ1 S1 => xSs (run Δ n) B [.ret (.blt .abs [.v 0])] ρ1 S1).fin = _
  rw [h2]
  simp [abs_eq, h1]
theorem lgcd_run (h : Δ[I.law_gcd]? = some (s_law_gcd I)) (a b : Int) : run Δ (n + 1) I.law_gcd [.dat (.int a), .dat (.int b)] B S = .ok (.int (Int.gcd a b)) S := by
  rw [run_at h rfl]
  obtain ⟨g, h1, h2⟩ := gcd_loop (cf := run Δ n) (B := B) (S := S) (b.natAbs + 2) a b (by omega)
  show ((whlR (run Δ n) B gc gb (b.natAbs + 2) [some (.dat (.int a)), some (.dat (.int b))] S).seq fun ρ1 S1 => xSs (run Δ n) B [.ret (.ite (.cmp .gt (.v 0) (.c (.int 0))) (.v 0) (.bin .sub (.c (.int 0)) (.v 0)))] ρ1 S1).fin = _
  rw [h2]
  simp
  by_cases hg : 0 < g
  · simp [hg]
    omega
  · simp [hg]
    omega
/-- the common part with the sign of b -/
def cm (a b : Int) : Int := if b < 0 then -(Int.gcd a b : Int) else Int.gcd a b
/-- a / b in lowest terms -/
def rt (a b : Int) : D := .tuple [.int (a.fdiv (cm a b)), .int (b.fdiv (cm a b))]
theorem gcd_pos {a b : Int} (h : b ≠ 0) : 0 < Int.gcd a b := by
  rcases Nat.eq_zero_or_pos (Int.gcd a b) with e | e
  · exact absurd (Int.gcd_eq_zero_iff.mp e).2 h
  · exact e
theorem cm_ne {a b : Int} (h : b ≠ 0) : cm a b ≠ 0 := by
  have := gcd_pos (a := a) h
  unfold cm
  split <;> omega
theorem cm_abs {a b : Int} : (cm a b).natAbs = Int.gcd a b := by
  unfold cm
  split <;> omega
theorem gcd_le {a b : Int} (h : b ≠ 0) : Int.gcd a b ≤ b.natAbs := by
  have h1 : (Int.gcd a b : Int) ∣ b := Int.gcd_dvd_right ..
  have h2 : Int.gcd a b ∣ b.natAbs := Int.natAbs_dvd_natAbs.mpr h1 |> fun z => by simpa using z
  exact Nat.le_of_dvd (by omega) h2
theorem cm_fit {a b : Int} (h : b ≠ 0) (hb : b.natAbs < 2 ^ 8000) : fit (cm a b) = true := fit_of (by rw [cm_abs]; exact Nat.lt_of_le_of_lt (gcd_le h) hb)
theorem ratio_run (h : Δ[I.ratio]? = some (s_ratio I)) (h1 : Δ[I.divisor]? = some (s_divisor I)) {a b : Int} (hb : b ≠ 0) (hf : b.natAbs < 2 ^ 8000) : run Δ (n + 2) I.ratio [.dat (.int a), .dat (.int b)] B S = .ok (rt a b) S := by
  rw [run_at h rfl]
  have hc := cm_fit (a := a) hb hf
  have hn := cm_ne (a := a) hb
  by_cases hs : b < 0
  · have e : cm a b = -(Int.gcd a b : Int) := if_pos hs
    rw [e] at hc hn
    simp [s_ratio, divisor_run h1, hs, vv_fdiv hn hc, rt, e]
  · have e : cm a b = (Int.gcd a b : Int) := if_neg hs
    rw [e] at hc hn
    simp [s_ratio, divisor_run h1, hs, vv_fdiv hn hc, rt, e]
theorem lof_run (h : Δ[I.law_of]? = some (s_law_of I)) (h1 : Δ[I.law_gcd]? = some (s_law_gcd I)) {a b : Int} (hb : b ≠ 0) (hf : b.natAbs < 2 ^ 8000) : run Δ (n + 2) I.law_of [.dat (.int a), .dat (.int b)] B S = .ok (rt a b) S := by
  rw [run_at h rfl]
  have hc := cm_fit (a := a) hb hf
  have hn := cm_ne (a := a) hb
  by_cases hs : b < 0
  · have e : cm a b = 0 - (Int.gcd a b : Int) := by rw [cm, if_pos hs]; omega
    have hs' : ¬ 0 < b := by omega
    rw [e] at hc hn
    simp only [s_law_of, xv_cons, xv_nil, xv_set, ev_call, ev_cons, ev_nil, List.map_cons, List.map_nil, List.cons_append, List.nil_append, ev_v0, ev_vs, ev_bok, vv_pd, vv_p0, Option.map_some, ev_ofs, lgcd_run h1, ev_ook, vv_ko, List.replicate_succ, List.replicate_zero, ev_snx, List.set_cons_zero, List.set_cons_succ, ev_ite, ev_cmp, ev_c, vv_gt, vv_tb, hs', decide_false, Bool.false_eq_true, if_false, ev_bin, vv_sub, xv_ret, ev_tup, vv_fdiv hn hc, vv_d1, vv_d0, Option.bind_some, rt, e, ev_frt, vv_do, ev_srt, List.length_cons, List.length_nil, lenOk_eq]
    rfl
  · have e : cm a b = (Int.gcd a b : Int) := if_neg hs
    have hs' : 0 < b := by omega
    rw [e] at hc hn
    simp [s_law_of, lgcd_run h1, hs', vv_fdiv hn hc, rt, e]
theorem mul_run (h : Δ[I.mul]? = some (s_mul I)) (h1 : Δ[I.ratio]? = some (s_ratio I)) (h2 : Δ[I.divisor]? = some (s_divisor I)) {a b c d : Int} (ha : fit a = true) (hb : fit b = true) (hc : fit c = true) (hd : fit d = true) (hn : b * d ≠ 0) (hf : (b * d).natAbs < 2 ^ 8000) :
    run Δ (n + 3) I.mul [.dat (.tuple [.int a, .int b]), .dat (.tuple [.int c, .int d])] B S = .ok (rt (a * c) (b * d)) S := by
  rw [run_at h rfl]
  simp [s_mul, vv_mul, ha, hb, hc, hd, ratio_run h1 h2 hn hf]
theorem div_run (h : Δ[I.div]? = some (s_div I)) (h1 : Δ[I.ratio]? = some (s_ratio I)) (h2 : Δ[I.divisor]? = some (s_divisor I)) {a b c d : Int} (ha : fit a = true) (hb : fit b = true) (hc : fit c = true) (hd : fit d = true) (hn : b * c ≠ 0) (hf : (b * c).natAbs < 2 ^ 8000) :
    run Δ (n + 3) I.div [.dat (.tuple [.int a, .int b]), .dat (.tuple [.int c, .int d])] B S = .ok (rt (a * d) (b * c)) S := by
  rw [run_at h rfl]
  simp [s_div, vv_mul, ha, hb, hc, hd, ratio_run h1 h2 hn hf]
theorem whole_run (h : Δ[I.whole]? = some (s_whole I)) {a : Int} : run Δ (n + 1) I.whole [.dat (.int a)] B S = .ok (.tuple [.int a, .int 1]) S := by
  rw [run_at h rfl]
  simp [s_whole]
theorem lless_run (h : Δ[I.law_less]? = some (s_law_less I)) {a b c d : Int} (ha : fit a = true) (hb : fit b = true) (hc : fit c = true) (hd : fit d = true) :
    run Δ (n + 1) I.law_less [.dat (.tuple [.int a, .int b]), .dat (.tuple [.int c, .int d])] B S = .ok (.bool (decide (a * d < c * b))) S := by
  rw [run_at h rfl]
  simp [s_law_less, vv_mul, ha, hb, hc, hd]
end
end Cw

namespace Cw
theorem at_lt {xs : List D} {i : Int} (h0 : 0 ≤ i) (h1 : i < xs.length) : ∃ d, xs[i.toNat]? = some d ∧ L2.atI xs i = some d := by
  have hk : i.toNat < xs.length := by omega
  refine ⟨xs[i.toNat], List.getElem?_eq_getElem hk, ?_⟩
  have e : i = ((i.toNat : Nat) : Int) := by omega
  have := at_nat (xs := xs) (k := i.toNat) (d := xs[i.toNat]) (List.getElem?_eq_getElem hk)
  rw [← e] at this
  exact this
section
variable {B : Lent} {w x y z d : D}
@[simp] theorem st_0 : subE B [w, x, y, z] .st (.dat (.int 0)) = some (.dat w) := by
  show (L2.atI [w, x, y, z] ((0 : Nat) : Int)).map EV.dat = _
  rw [at_nat (d := w) rfl]; rfl
@[simp] theorem st_1 : subE B [w, x, y, z] .st (.dat (.int 1)) = some (.dat x) := by
  show (L2.atI [w, x, y, z] ((1 : Nat) : Int)).map EV.dat = _
  rw [at_nat (d := x) rfl]; rfl
@[simp] theorem st_2 : subE B [w, x, y, z] .st (.dat (.int 2)) = some (.dat y) := by
  show (L2.atI [w, x, y, z] ((2 : Nat) : Int)).map EV.dat = _
  rw [at_nat (d := y) rfl]; rfl
@[simp] theorem st_3 : subE B [w, x, y, z] .st (.dat (.int 3)) = some (.dat z) := by
  show (L2.atI [w, x, y, z] ((3 : Nat) : Int)).map EV.dat = _
  rw [at_nat (d := z) rfl]; rfl
theorem ix_nat {k n : Nat} (h : k < n) : L2.ixN n (k : Int) = some k := by
  unfold L2.ixN
  rw [if_pos (by omega), if_pos (by omega)]
  rfl
@[simp] theorem se_1 : setE [w, x, y, z] .st (.dat (.int 1)) d = some (.st, [w, d, y, z]) := by
  show (L2.ixN 4 ((1 : Nat) : Int)).map (fun j => (EV.st, [w, x, y, z].set j d)) = _
  rw [ix_nat (by omega)]; rfl
@[simp] theorem se_2 : setE [w, x, y, z] .st (.dat (.int 2)) d = some (.st, [w, x, d, z]) := by
  show (L2.ixN 4 ((2 : Nat) : Int)).map (fun j => (EV.st, [w, x, y, z].set j d)) = _
  rw [ix_nat (by omega)]; rfl
@[simp] theorem se_3 : setE [w, x, y, z] .st (.dat (.int 3)) d = some (.st, [w, x, y, d]) := by
  show (L2.ixN 4 ((3 : Nat) : Int)).map (fun j => (EV.st, [w, x, y, z].set j d)) = _
  rw [ix_nat (by omega)]; rfl
@[simp] theorem gn_1 {i : Int} : getN [w, .int i, y, z] .st 1 = some i := by
  show (if 1 < 1000 then ([w, PySem.PyData.int i, y, z][1]?).bind fun d => intOf (.dat d) else none) = _
  rw [if_pos (by omega)]; rfl
@[simp] theorem sl_0 {e : EV} {r : Rho} : slotE (some e :: r) 0 = some e := rfl
@[simp] theorem sl_s {o : Option EV} {r : Rho} {i : Nat} : slotE (o :: r) (i + 1) = slotE r i := rfl
@[simp] theorem vv_int {S : Sta} {i : Int} : bltE B S .int [.dat (.int i)] = some (.dat (.int i)) := rfl
@[simp] theorem vv_subl {S : Sta} {xs : List D} {i : Int} : subE B S (.dat (.list xs)) (.dat (.int i)) = (L2.atI xs i).map .dat := rfl
@[simp] theorem vv_pow : binE B .pow (.dat (.int 10)) (.dat (.int 18)) = some (.dat (.int 1000000000000000000)) := by
  show (if (decide ((0 : Int) ≤ 18) && decide ((18 : Int) ≤ 1000) && decide ((10 : Int).natAbs ≤ 1000)) = true then some (EV.dat (.int (10 ^ (18 : Int).toNat))) else none) = _
  rw [if_pos (by decide)]
  rfl
end
/-- the state list as it always stands -/
structure StaOk (S : Sta) : Prop where
  ex : ∃ (ns : List Int) (i a b : Int), S = [.list (ns.map .int), .int i, .int a, .int b] ∧ 0 ≤ i ∧ 0 ≤ a ∧ 0 ≤ b ∧ b < 2147483647
theorem fit_small {i : Int} (h : i.natAbs < 2 ^ 100) : fit i = true := fit_of (Nat.lt_of_lt_of_le h (Nat.pow_le_pow_right (by omega) (by omega)))
theorem fmod_bd {a b : Int} (h : 0 < b) : 0 ≤ a.fmod b ∧ a.fmod b < b := ⟨Int.fmod_nonneg_of_pos a h, Int.fmod_lt_of_pos a h⟩
section
variable {Δ : List Fd} {I : Ix} {n : Nat} {B : Lent}
theorem draw2 {cf : CallF} {o : Option EV} {ns : List Int} {i a b l : Int} (hl : 0 < l) (hf : fit l = true) (ha : 0 ≤ a) (h0 : 0 ≤ b) (h1 : b < 2147483647) (hi : 0 ≤ i) :
    ∃ v S', (xSs cf B ((s_law_next I).body.drop 1) [some .st, some (.dat (.int l)), o, none] [.list (ns.map .int), .int i, .int a, .int b]).fin = .ok (.int v) S' ∧ 0 ≤ v ∧ v < l ∧ StaOk S' := by
  have fb : fit b = true := fit_small (by omega)
  have f1 : fit 69621 = true := fit_small (by omega)
  have f7 : fit 7 = true := fit_small (by omega)
  have hl0 : l ≠ 0 := by omega
  by_cases h : 0 < a
  · refine ⟨a.fmod l, [.list (ns.map .int), .int i, .int (a.fdiv l), .int b], ?_, (fmod_bd hl).1, (fmod_bd hl).2, ⟨ns, i, a.fdiv l, b, rfl, hi, Int.fdiv_nonneg ha (by omega), h0, h1⟩⟩
    simp [s_law_next, h, vv_mod hl0, vv_fdiv hl0 hf]
  · have e : a = 0 := by omega
    subst e
    have hm := fmod_bd (a := b * 69621 + 12345) (b := 2147483647) (by omega)
    refine ⟨(((b * 69621 + 12345).fmod 2147483647).fdiv 7).fmod l, [.list (ns.map .int), .int i, .int 0, .int ((b * 69621 + 12345).fmod 2147483647)], ?_, (fmod_bd hl).1, (fmod_bd hl).2, ⟨ns, i, 0, (b * 69621 + 12345).fmod 2147483647, rfl, hi, by omega, hm.1, hm.2⟩⟩
    · simp [s_law_next, vv_mod hl0, vv_fdiv (show (7 : Int) ≠ 0 by omega) f7, vv_mul fb f1, vv_mod (show (2147483647 : Int) ≠ 0 by omega)]
theorem next_run (h : Δ[I.law_next]? = some (s_law_next I)) {S : Sta} (hS : StaOk S) {l : Int} (hl : 0 < l) (hf : fit l = true) : ∃ v S', run Δ (n + 1) I.law_next [.st, .dat (.int l)] B S = .ok (.int v) S' ∧ 0 ≤ v ∧ v < l ∧ StaOk S' := by
  obtain ⟨ns, i, a, b, rfl, hi, ha, h0, h1⟩ := hS.ex
  rw [run_at h rfl]
  have hmap : (ns.map PySem.PyData.int).length = ns.length := List.length_map ..
  by_cases c : a = 0 ∧ i < ns.length
  · obtain ⟨c1, c2⟩ := c
    subst c1
    have hk : i.toNat < ns.length := by omega
    have hat : L2.atI (ns.map PySem.PyData.int) i = some (.int ns[i.toNat]) := by
      have := at_nat (xs := ns.map PySem.PyData.int) (k := i.toNat) (d := .int ns[i.toNat]) (by rw [List.getElem?_map, List.getElem?_eq_getElem hk]; rfl)
      rwa [show ((i.toNat : Nat) : Int) = i by omega] at this
    generalize ns[i.toNat] = cell at hat
    have fb : fit b = true := fit_small (by omega)
    have f4 : fit 48271 = true := fit_small (by omega)
    by_cases hc : 1000000000000000000 ≤ cell
    · obtain ⟨v, S', e, r⟩ := draw2 (I := I) (B := B) (cf := run Δ n) (o := some (.dat (.int cell))) (ns := ns) (i := i + 1) (a := cell) (b := b) hl hf (by omega) h0 h1 (by omega)
      refine ⟨v, S', ?_, r⟩
      rw [← e]
      simp [s_law_next, c2, hat, hc, hmap]
    · have hm := fmod_bd (a := b * 48271 + cell.fmod 2147483647 + 7) (b := 2147483647) (by omega)
      obtain ⟨v, S', e, r⟩ := draw2 (I := I) (B := B) (cf := run Δ n) (o := some (.dat (.int cell))) (ns := ns) (i := i + 1) (a := 0) (b := (b * 48271 + cell.fmod 2147483647 + 7).fmod 2147483647) hl hf (by omega) hm.1 hm.2 (by omega)
      refine ⟨v, S', ?_, r⟩
      rw [← e]
      simp [s_law_next, c2, hat, hc, hmap, vv_mul fb f4, vv_mod (show (2147483647 : Int) ≠ 0 by omega)]
  · obtain ⟨v, S', e, r⟩ := draw2 (I := I) (B := B) (cf := run Δ n) (o := none) (ns := ns) (i := i) (a := a) (b := b) hl hf ha h0 h1 hi
    refine ⟨v, S', ?_, r⟩
    rw [← e]
    by_cases c1 : a = 0
    · have c2 : ¬ i < ns.length := fun z => c ⟨c1, z⟩
      simp [s_law_next, c1, c2, hmap]
    · simp [s_law_next, c1]
end
end Cw

namespace Cw
open PySem (PyData)
/-- a text that may be compared -/
def sOk (x : Tx) : Prop := PyData.canLay0 (.str x) = true
/-- data whose texts may be compared, down to a depth -/
inductive Ok : Nat → D → Prop
  | non {n : Nat} : Ok n .none
  | bl {n : Nat} (b : Bool) : Ok n (.bool b)
  | int {n : Nat} (i : Int) : Ok n (.int i)
  | str {n : Nat} {x : Tx} : sOk x → Ok n (.str x)
  | tup {n : Nat} {ds : List D} : ds.length ≤ 1000000 → (∀ d ∈ ds, Ok n d) → Ok (n + 1) (.tuple ds)
  | lst {n : Nat} {ds : List D} : ds.length ≤ 1000000 → (∀ d ∈ ds, Ok n d) → Ok (n + 1) (.list ds)
  | dic {n : Nat} : Ok n (.dict [])
/-- what may be expected: the same without dicts -/
inductive Pn : Nat → D → Prop
  | non {n : Nat} : Pn n .none
  | bl {n : Nat} (b : Bool) : Pn n (.bool b)
  | int {n : Nat} (i : Int) : Pn n (.int i)
  | str {n : Nat} {x : Tx} : sOk x → Pn n (.str x)
  | tup {n : Nat} {ds : List D} : ds.length ≤ 1000000 → (∀ d ∈ ds, Pn n d) → Pn (n + 1) (.tuple ds)
  | lst {n : Nat} {ds : List D} : ds.length ≤ 1000000 → (∀ d ∈ ds, Pn n d) → Pn (n + 1) (.list ds)
theorem shaped_str {x : Tx} (h : sOk x) : PySem.SeqAt.shaped (.str x) = true := by
  unfold PySem.SeqAt.shaped
  rw [h]
  simp [PyData.depth]
theorem eq_str {B : Lent} {x y : Tx} (h1 : sOk x) (h2 : sOk y) : cmpE B .eq (.dat (.str x)) (.dat (.str y)) = some (x == y) := by
  show (if (PySem.SeqAt.shaped (.str x) && PySem.SeqAt.shaped (.str y)) = true then some (PyData.eqv (.str x) (.str y)) else none) = _
  rw [shaped_str h1, shaped_str h2]
  simp [PyData.eqv]
@[simp] theorem eq_bool {B : Lent} {x y : Bool} : cmpE B .eq (.dat (.bool x)) (.dat (.bool y)) = some (x == y) := rfl
section
variable {Δ : List Fd} {I : Ix} {n : Nat} {B : Lent} {S : Sta}
def isWhole : D → Bool
  | .int _ => true
  | _ => false
theorem is_whole_run (h : Δ[I.is_whole]? = some (s_is_whole I)) (v : D) : run Δ (n + 1) I.is_whole [.dat v] B S = .ok (.bool (isWhole v)) S := by
  rw [run_at h rfl]
  cases v <;> simp [s_is_whole, tyAny, tyIs, Ty.same, isWhole]
def isFr : D → Bool
  | .tuple [.int a, .int b] => decide (0 < b) && Int.gcd a b == 1
  | _ => false
theorem is_fraction_run (h : Δ[I.is_fraction]? = some (s_is_fraction I)) (h1 : Δ[I.is_whole]? = some (s_is_whole I)) (h2 : Δ[I.divisor]? = some (s_divisor I)) (v : D) : run Δ (n + 2) I.is_fraction [.dat v] B S = .ok (.bool (isFr v)) S := by
  rw [run_at h rfl]
  match v with
  | .none => simp [s_is_fraction, tyAny, tyIs, Ty.same, isFr]
  | .bool _ => simp [s_is_fraction, tyAny, tyIs, Ty.same, isFr]
  | .int _ => simp [s_is_fraction, tyAny, tyIs, Ty.same, isFr]
  | .str _ => simp [s_is_fraction, tyAny, tyIs, Ty.same, isFr]
  | .list _ => simp [s_is_fraction, tyAny, tyIs, Ty.same, isFr]
  | .dict _ => simp [s_is_fraction, tyAny, tyIs, Ty.same, isFr]
  | .tuple [] => simp [s_is_fraction, tyAny, tyIs, Ty.same, isFr]
  | .tuple [_] => simp [s_is_fraction, tyAny, tyIs, Ty.same, isFr]
  | .tuple (x :: y :: z :: r) =>
    have hl : ¬ ((r.length : Int) + 1 + 1 + 1 = 2) := by omega
    simp [s_is_fraction, tyAny, tyIs, Ty.same, isFr, hl]
  | .tuple [x, y] =>
    cases x with
    | int a =>
      cases y with
      | int b =>
        by_cases hb : 0 < b
        · simp [s_is_fraction, tyAny, tyIs, Ty.same, isFr, is_whole_run h1, isWhole, divisor_run h2, hb]
          exact Bool.eq_iff_iff.mpr ⟨fun z => by simp at z ⊢; omega, fun z => by simp at z ⊢; omega⟩
        · simp [s_is_fraction, tyAny, tyIs, Ty.same, isFr, is_whole_run h1, isWhole, hb]
      | _ => simp [s_is_fraction, tyAny, tyIs, Ty.same, isFr, is_whole_run h1, isWhole]
    | _ => simp [s_is_fraction, tyAny, tyIs, Ty.same, isFr, is_whole_run h1, isWhole]
end
end Cw

namespace Cw
open PySem (PyData)
section
variable {Δ : List Fd} {I : Ix} {n : Nat} {B : Lent} {S : Sta}
def isTold (w : Tx) (c : Nat) : D → Bool
  | .tuple (.str s :: r) => r.length + 1 == c && s == w
  | _ => false
theorem is_told_run (h : Δ[I.is_told]? = some (s_is_told I)) {v : D} {k : Nat} (hv : Ok k v) {w : Tx} (hw : sOk w) {c : Nat} (hc : 1 ≤ c) : run Δ (n + 1) I.is_told [.dat v, .dat (.str w), .dat (.int c)] B S = .ok (.bool (isTold w c v)) S := by
  rw [run_at h rfl]
  match v, hv with
  | .none, _ => simp [s_is_told, tyAny, tyIs, Ty.same, isTold]
  | .bool _, _ => simp [s_is_told, tyAny, tyIs, Ty.same, isTold]
  | .int _, _ => simp [s_is_told, tyAny, tyIs, Ty.same, isTold]
  | .str _, _ => simp [s_is_told, tyAny, tyIs, Ty.same, isTold]
  | .list _, _ => simp [s_is_told, tyAny, tyIs, Ty.same, isTold]
  | .dict _, _ => simp [s_is_told, tyAny, tyIs, Ty.same, isTold]
  | .tuple [], _ =>
    have hl : ¬ ((0 : Int) = c) := by omega
    simp [s_is_told, tyAny, tyIs, Ty.same, isTold, hl]
  | .tuple (x :: r), hv =>
    by_cases hl : ((r.length : Int) + 1 = c)
    · have hl' : r.length + 1 = c := by omega
      cases x with
      | str s =>
        have hs : sOk s := by
          cases hv with
          | tup _ a => cases a (.str s) List.mem_cons_self with
            | str q => exact q
        simp [s_is_told, tyAny, tyIs, Ty.same, isTold, hl, hl', eq_str hs hw]
      | _ => simp [s_is_told, tyAny, tyIs, Ty.same, isTold, hl, hl']
    · have hl' : ¬ r.length + 1 = c := by omega
      cases x <;> simp [s_is_told, tyAny, tyIs, Ty.same, isTold, hl, hl']
/-- a comprehension without tests over data, where each turn leaves the state -/
theorem lc_map {cf : CallF} {i : Nat} {e : Ex} {ρ : Rho} {f : D → D} : ∀ (ds : List D) , (∀ d ∈ ds, eE cf B e (ρ.set i (some (.dat d))) S = .ok (.dat (f d)) S) → lcR cf B (.v i) [] e ρ ds S = .ok (ds.map f) S
  | [], _ => rfl
  | d :: ds, h => by
    have ih := lc_map (cf := cf) (i := i) (e := e) (ρ := ρ) (f := f) ds fun x hx => h x (List.mem_cons_of_mem _ hx)
    rw [lcR_cons]
    simp only [bp_v, ev_cnil, ev_bok, if_true, h d List.mem_cons_self, ih]
    rfl
theorem canAll_bools : ∀ bs : List Bool, PyData.canLayAll0 (bs.map .bool) = true
  | [] => rfl
  | b :: bs => by
    show (PyData.canLay0 (.bool b) && PyData.canLayAll0 (bs.map .bool)) = true
    rw [canAll_bools bs]
    rfl
theorem depth_bools : ∀ bs : List Bool, PyData.depthAll (bs.map .bool) ≤ 1
  | [] => by simp [PyData.depthAll]
  | b :: bs => by
    have := depth_bools bs
    simp only [List.map_cons, PyData.depthAll, PyData.depth]
    omega
theorem shaped_bools (bs : List Bool) : PySem.SeqAt.shaped (.list (bs.map .bool)) = true := by
  unfold PySem.SeqAt.shaped
  have h1 := canAll_bools bs
  have h2 := depth_bools bs
  have h3 : (PyData.list (bs.map .bool)).depth ≤ 64 := by
    simp only [PyData.depth]
    omega
  have h4 : (PyData.list (bs.map .bool)).canLay0 = true := h1
  rw [h4, decide_eq_true h3]
  rfl
theorem nin_bools {bs : List Bool} : cmpE B .nin (.dat (.bool false)) (.dat (.list (bs.map .bool))) = some (bs.all fun b => b) := by
  show (if (PySem.SeqAt.shaped (.bool false) && PySem.SeqAt.shaped (.list (bs.map .bool))) = true then some ((bs.map PyData.bool).any fun z => PyData.eqv z (.bool false)) else none).map (!·) = _
  rw [shaped_bools, if_pos (by rfl)]
  simp only [Option.map_some, List.any_map, Option.some.injEq]
  induction bs with
  | nil => rfl
  | cons b bs ih =>
    simp only [List.any_cons, List.all_cons, Bool.not_or, ih]
    cases b <;> rfl
theorem nin_map {α : Type} {ds : List α} {g : α → Bool} : cmpE B .nin (.dat (.bool false)) (.dat (.list (ds.map (PyData.bool ∘ g)))) = some (ds.all g) := by
  rw [← List.map_map, nin_bools, List.all_map]
  rfl
def areFr (c : Nat) : D → Bool
  | .tuple ds => ds.length == c && ds.all isFr
  | _ => false
theorem are_fractions_run (h : Δ[I.are_fractions]? = some (s_are_fractions I)) (h0 : Δ[I.is_fraction]? = some (s_is_fraction I)) (h1 : Δ[I.is_whole]? = some (s_is_whole I)) (h2 : Δ[I.divisor]? = some (s_divisor I)) (v : D) {c : Nat} (hc : c ≤ 1000000) : run Δ (n + 3) I.are_fractions [.dat v, .dat (.int c)] B S = .ok (.bool (areFr c v)) S := by
  rw [run_at h rfl]
  cases v with
  | tuple ds =>
    by_cases hl : ((ds.length : Nat) : Int) = c
    · have hl' : ds.length = c := by omega
      have lm := lc_map (cf := run Δ (n + 2)) (B := B) (S := S) (i := 2) (e := .call I.is_fraction [.v 2]) (ρ := [some (.dat (.tuple ds)), some (.dat (.int c)), none]) (f := fun d => .bool (isFr d)) ds fun d _ => by
        simp [is_fraction_run h0 h1 h2]
      have hm : ds.map (fun d => PyData.bool (isFr d)) = (ds.map isFr).map .bool := by simp
      rw [hm] at lm
      have hz : ds.length ≤ 1000000 := by omega
      have hc' : ((c : Int) == c) = true := by simp
      simp only [s_are_fractions, xv_cons, xv_nil, xv_ret, ev_ands, ev_ands1, ev_isi, List.map_cons, List.map_nil, List.cons_append, List.nil_append, ev_v0, ev_vs, ev_bok, tyAny, tyIs, Ty.same, Option.bind_some, Option.map_some, Bool.or_false, ev_ofs, vv_tb, if_true, ev_cmp, ev_blt, ev_cons, ev_nil, vv_len, vv_eqi, hl, hc', ev_c, ev_lc, ev_sval, stabL, stab, Bool.not_false, Bool.or_true, Bool.true_or, srcItems, seqOf, wipeR, List.set_cons_zero, List.set_cons_succ, List.replicate_succ, List.replicate_zero, lm, ev_str, lenOk_eq, List.length_map, hz, decide_true, nin_bools, ev_ook, vv_do, ev_srt, ev_frt, areFr, hl']
      simp [hc, nin_map]
    · have hl' : ¬ ds.length = c := by omega
      have hb : (((ds.length : Nat) : Int) == (c : Int)) = false := by simpa using hl
      have hb' : (ds.length == c) = false := by simpa using hl'
      simp [s_are_fractions, tyAny, tyIs, Ty.same, areFr, hb, hb']
  | _ => simp [s_are_fractions, tyAny, tyIs, Ty.same, areFr]
end
end Cw

namespace Cw
open PySem (PyData)
section
variable {Δ : List Fd} {I : Ix} {n : Nat} {B : Lent} {S : Sta}
def isNon : D → Bool
  | .none => true
  | _ => false
@[simp] theorem isx_eq {d : D} : cmpE B .isx (.dat d) (.dat .none) = some (isNon d) := by cases d <;> rfl
@[simp] theorem isnt_eq {d : D} : cmpE B .isnt (.dat d) (.dat .none) = some (!isNon d) := by cases d <;> rfl
theorem rng1_nat {k : Nat} (h : k ≤ 1000000000) : rng1Of (.dat (.int (k : Nat))) = some (rngL 0 k) := by
  show (if small62 (k : Int) = true then some (rngL 0 (k : Int).toNat) else none) = _
  rw [if_pos (by unfold small62; simp; omega)]
  rfl
abbrev sameB (I : Ix) : List Sm := [.ite (.not (.call I.law_same [.sub (.v 0) (.v 2), .sub (.v 1) (.v 2)])) [.ret (.c (.bool false))] []]
theorem same_loop {m : Nat} {X : List D → D} (hX : ∀ (B : Lent) (S : Sta) xs i, subE B S (.dat (X xs)) (.dat (.int i)) = (L2.atI xs i).map .dat) {as es : List D} (hl : as.length = es.length)
    (rec : ∀ (i : Nat) a e, as[i]? = some a → es[i]? = some e → ∃ b, run Δ m I.law_same [.dat a, .dat e] [] S = .ok (.bool b) S ∧ (b = true ↔ a = e)) : ∀ (r k : Nat) (o : Option EV), k + r = es.length →
    (as.drop k = es.drop k ∧ ∃ o', forR (run Δ m) B (.v 2) (sameB I) (rngL k r) [some (.dat (X as)), some (.dat (X es)), o] S = .nx [some (.dat (X as)), some (.dat (X es)), o'] S) ∨
    (as.drop k ≠ es.drop k ∧ forR (run Δ m) B (.v 2) (sameB I) (rngL k r) [some (.dat (X as)), some (.dat (X es)), o] S = .rt (.bool false) S)
  | 0, k, o, h => .inl ⟨by rw [List.drop_eq_nil_of_le (by omega), List.drop_eq_nil_of_le (by omega)], o, rfl⟩
  | r + 1, k, o, h => by
    have h1 : k < as.length := by omega
    have h2 : k < es.length := by omega
    have ea := at_nat (xs := as) (k := k) (d := as[k]) (List.getElem?_eq_getElem h1)
    have ee := at_nat (xs := es) (k := k) (d := es[k]) (List.getElem?_eq_getElem h2)
    obtain ⟨b, hb, hi⟩ := rec k _ _ (List.getElem?_eq_getElem h1) (List.getElem?_eq_getElem h2)
    have e1 : rngL (k : Int) (r + 1) = .int k :: rngL ((k + 1 : Nat) : Int) r := rfl
    rw [e1, forR_cons, List.drop_eq_getElem_cons h1, List.drop_eq_getElem_cons h2]
    have step : xSs (run Δ m) B (sameB I) [some (.dat (X as)), some (.dat (X es)), some (.dat (.int k))] S = if b = true then .nx [some (.dat (X as)), some (.dat (X es)), some (.dat (.int k))] S else .rt (.bool false) S := by
      cases b <;> simp [hX, ea, ee, hb]
    simp only [bp_v, List.set_cons_zero, List.set_cons_succ]
    rw [step]
    cases b with
    | false =>
      right
      refine ⟨fun z => ?_, rfl⟩
      injection z with z1 _
      exact Bool.noConfusion (hi.mpr z1)
    | true =>
      have eq := hi.mp rfl
      rcases same_loop hX hl rec r (k + 1) (some (.dat (.int k))) (by omega) with ⟨q1, q2⟩ | ⟨q1, q2⟩
      · left
        refine ⟨by rw [eq, q1], q2⟩
      · right
        refine ⟨fun z => ?_, q2⟩
        injection z with _ z2
        exact q1 z2
theorem same_run (h : Δ[I.law_same]? = some (s_law_same I)) : ∀ (n : Nat) (e : D), Pn n e → ∀ (j : Nat) (a : D), Ok j a → ∀ (m : Nat) (B : Lent), n + 1 ≤ m → ∃ b, run Δ m I.law_same [.dat a, .dat e] B S = .ok (.bool b) S ∧ (b = true ↔ a = e)
  | n, e, he, j, a, ha, 0, B, hm => absurd hm (by omega)
  | n, e, he, j, a, ha, m + 1, B, hm => by
    rw [run_at h rfl]
    cases he with
    | non =>
      refine ⟨isNon a, by simp [s_law_same, isNon], ?_⟩
      cases a <;> simp [isNon]
    | bl eb =>
      cases a with
      | bool ab => exact ⟨ab == eb, by simp [s_law_same, isNon, tyAny, tyIs, Ty.same], by simp⟩
      | _ => exact ⟨false, by simp [s_law_same, isNon, tyAny, tyIs, Ty.same], by simp⟩
    | int ei =>
      cases a with
      | int ai => exact ⟨ai == ei, by simp [s_law_same, isNon, tyAny, tyIs, Ty.same], by simp⟩
      | _ => exact ⟨false, by simp [s_law_same, isNon, tyAny, tyIs, Ty.same], by simp⟩
    | str es =>
      cases ha with
      | str as => exact ⟨_, by simp [s_law_same, isNon, tyAny, tyIs, Ty.same, eq_str as es]; rfl, by simp⟩
      | _ => exact ⟨false, by simp [s_law_same, isNon, tyAny, tyIs, Ty.same], by simp⟩
    | @tup n' es hlen hes =>
      cases ha with
      | @tup j' as hal has =>
        by_cases hl : as.length = es.length
        · have hb : (((as.length : Nat) : Int) == ((es.length : Nat) : Int)) = true := by simp [hl]
          have lp := same_loop (Δ := Δ) (I := I) (m := m) (B := B) (S := S) (X := .tuple) (fun _ _ _ _ => rfl) hl (fun i a e h1 h2 => same_run h n' e (hes e (List.mem_of_getElem? h2)) j' a (has a (List.mem_of_getElem? h1)) m [] (by omega)) es.length 0 none (by omega)
          rw [List.drop_zero, List.drop_zero] at lp
          have r1 := rng1_nat (k := es.length) (by omega)
          rcases lp with ⟨q1, o', q2⟩ | ⟨q1, q2⟩
          · refine ⟨true, ?_, by simp [q1]⟩
            have q3 : forR (run Δ m) B (.v 2) (sameB I) (rngL 0 es.length) [some (.dat (.tuple as)), some (.dat (.tuple es)), none] S = _ := q2
            simp [s_law_same, isNon, tyAny, tyIs, Ty.same, hl, r1, q3]
          · refine ⟨false, ?_, by simp [q1]⟩
            have q3 : forR (run Δ m) B (.v 2) (sameB I) (rngL 0 es.length) [some (.dat (.tuple as)), some (.dat (.tuple es)), none] S = _ := q2
            simp [s_law_same, isNon, tyAny, tyIs, Ty.same, hl, r1, q3]
        · have hb : (((as.length : Nat) : Int) == ((es.length : Nat) : Int)) = false := by simp; omega
          refine ⟨false, ?_, ?_⟩
          · simp [s_law_same, isNon, tyAny, tyIs, Ty.same, hb]
          · simp
            intro z
            exact hl (by rw [z])
      | _ => exact ⟨false, by simp [s_law_same, isNon, tyAny, tyIs, Ty.same], by simp⟩
    | @lst n' es hlen hes =>
      cases ha with
      | @lst j' as hal has =>
        by_cases hl : as.length = es.length
        · have hb : (((as.length : Nat) : Int) == ((es.length : Nat) : Int)) = true := by simp [hl]
          have lp := same_loop (Δ := Δ) (I := I) (m := m) (B := B) (S := S) (X := .list) (fun _ _ _ _ => rfl) hl (fun i a e h1 h2 => same_run h n' e (hes e (List.mem_of_getElem? h2)) j' a (has a (List.mem_of_getElem? h1)) m [] (by omega)) es.length 0 none (by omega)
          rw [List.drop_zero, List.drop_zero] at lp
          have r1 := rng1_nat (k := es.length) (by omega)
          rcases lp with ⟨q1, o', q2⟩ | ⟨q1, q2⟩
          · refine ⟨true, ?_, by simp [q1]⟩
            have q3 : forR (run Δ m) B (.v 2) (sameB I) (rngL 0 es.length) [some (.dat (.list as)), some (.dat (.list es)), none] S = _ := q2
            simp [s_law_same, isNon, tyAny, tyIs, Ty.same, hl, r1, q3]
          · refine ⟨false, ?_, by simp [q1]⟩
            have q3 : forR (run Δ m) B (.v 2) (sameB I) (rngL 0 es.length) [some (.dat (.list as)), some (.dat (.list es)), none] S = _ := q2
            simp [s_law_same, isNon, tyAny, tyIs, Ty.same, hl, r1, q3]
        · have hb : (((as.length : Nat) : Int) == ((es.length : Nat) : Int)) = false := by simp; omega
          refine ⟨false, ?_, ?_⟩
          · simp [s_law_same, isNon, tyAny, tyIs, Ty.same, hb]
          · simp
            intro z
            exact hl (by rw [z])
      | _ => exact ⟨false, by simp [s_law_same, isNon, tyAny, tyIs, Ty.same], by simp⟩
end
end Cw

namespace Cw
open PySem (PyData)
/-- an expression that is data whatever the state -/
def DE (cf : CallF) (B : Lent) (ρ : Rho) (e : Ex) (P : D → Prop) : Prop := ∃ d, (∀ S, eE cf B e ρ S = .ok (.dat d) S) ∧ P d
def TP (L : Nat) (P : D → Prop) (d : D) : Prop := ∃ ds, d = .tuple ds ∧ ds.length ≤ L ∧ ∀ x ∈ ds, P x
def LP (L : Nat) (P : D → Prop) (d : D) : Prop := ∃ ds, d = .list ds ∧ ds.length ≤ L ∧ ∀ x ∈ ds, P x
def SP (L : Nat) (d : D) : Prop := ∃ x, d = .str x ∧ sOk x ∧ x.length ≤ L
def IP (d : D) : Prop := ∃ i, d = .int i
section
variable {cf : CallF} {B : Lent} {ρ : Rho} {a b c : Ex} {P Q : D → Prop} {L M : Nat} {e : Ex}
theorem DE.imp (h : DE cf B ρ e P) (i : ∀ d, P d → Q d) : DE cf B ρ e Q := by
  obtain ⟨d, h1, h2⟩ := h
  exact ⟨d, h1, i d h2⟩
theorem DE.v {i : Nat} {d : D} (h : ρ[i]? = some (some (.dat d))) (p : P d) : DE cf B ρ (.v i) P := ⟨d, fun S => ev_v h, p⟩
theorem DE.con {d : D} (p : P d) : DE cf B ρ (.c d) P := ⟨d, fun _ => rfl, p⟩
theorem cut_mem {α : Type} {xs : List α} {lo hi : Option Int} {x : α} (h : x ∈ cutL xs lo hi) : x ∈ xs := List.mem_of_mem_drop (List.mem_of_mem_take h)
theorem cut_len {α : Type} {xs : List α} {lo hi : Option Int} : (cutL xs lo hi).length ≤ xs.length := by
  unfold cutL
  rw [List.length_take, List.length_drop]
  omega
theorem TP.cut {d : D} (h : TP L P d) (lo hi : Option Int) : ∃ d', slcE B (.dat d) lo hi = some (.dat d') ∧ TP L P d' := by
  obtain ⟨ds, rfl, h1, h2⟩ := h
  exact ⟨_, rfl, _, rfl, Nat.le_trans cut_len h1, fun x hx => h2 x (cut_mem hx)⟩
theorem sOk_iff {x : Tx} : sOk x ↔ ∀ c ∈ x.cps.toList, c < 0x110000 := by
  unfold sOk
  show PySem.PyData.strOk x = true ↔ _
  unfold PySem.PyData.strOk
  rw [Array.all_eq_true_iff_forall_mem]
  simp
theorem SP.cut {d : D} (h : SP L d) (hL : L ≤ 1000000) (lo hi : Option Int) : ∃ d', slcE B (.dat d) lo hi = some (.dat d') ∧ SP L d' := by
  obtain ⟨x, rfl, h1, h2⟩ := h
  refine ⟨.str (L2.cutS x lo hi), ?_, _, rfl, ?_, ?_⟩
  · show (if lenOk x.length = true then some (EV.dat (.str (L2.cutS x lo hi))) else none) = _
    rw [if_pos (by rw [lenOk_eq]; simp; omega)]
  · rw [sOk_iff] at h1 ⊢
    intro c hc
    apply h1 c
    unfold L2.cutS at hc
    exact List.mem_of_mem_drop (List.mem_of_mem_take (by simpa using hc))
  · refine Nat.le_trans ?_ h2
    unfold L2.cutS PySem.Str.length
    simp
    omega
/-- tuple or text -/
def Cuts (B : Lent) (R : D → Prop) : Prop := ∀ d, R d → ∀ lo hi, ∃ d', slcE B (.dat d) lo hi = some (.dat d') ∧ R d'
theorem cutsT : Cuts B (TP L P) := fun _ h lo hi => h.cut lo hi
theorem cutsS (hL : L ≤ 1000000) : Cuts B (SP L) := fun _ h lo hi => h.cut hL lo hi
theorem DE.slcL (k : Cuts B P) (ha : DE cf B ρ a P) (hb : DE cf B ρ b IP) : DE cf B ρ (.slcL a b) P := by
  obtain ⟨d, h1, h2⟩ := ha
  obtain ⟨_, h3, i, rfl⟩ := hb
  obtain ⟨d', h4, h5⟩ := k d h2 (some i) none
  exact ⟨d', fun S => by simp [h1, h3, h4], h5⟩
theorem DE.slcH (k : Cuts B P) (ha : DE cf B ρ a P) (hb : DE cf B ρ b IP) : DE cf B ρ (.slcH a b) P := by
  obtain ⟨d, h1, h2⟩ := ha
  obtain ⟨_, h3, i, rfl⟩ := hb
  obtain ⟨d', h4, h5⟩ := k d h2 none (some i)
  exact ⟨d', fun S => by simp [h1, h3, h4], h5⟩
theorem DE.slcB (k : Cuts B P) (ha : DE cf B ρ a P) (hb : DE cf B ρ b IP) (hc : DE cf B ρ c IP) : DE cf B ρ (.slcB a b c) P := by
  obtain ⟨d, h1, h2⟩ := ha
  obtain ⟨_, h3, i, rfl⟩ := hb
  obtain ⟨_, h6, j, rfl⟩ := hc
  obtain ⟨d', h4, h5⟩ := k d h2 (some i) (some j)
  exact ⟨d', fun S => by simp [h1, h3, h6, h4], h5⟩
theorem DE.revT (ha : DE cf B ρ a (TP L P)) : DE cf B ρ (.rev a) (TP L P) := by
  obtain ⟨_, h1, ds, rfl, h2, h3⟩ := ha
  exact ⟨.tuple ds.reverse, fun S => by simp [h1, revE], ds.reverse, rfl, by simpa using h2, fun x hx => h3 x (by simpa using hx)⟩
theorem DE.revS (hL : L ≤ 1000000) (ha : DE cf B ρ a (SP L)) : DE cf B ρ (.rev a) (SP L) := by
  obtain ⟨_, h1, x, rfl, h2, h3⟩ := ha
  have hz : x.length ≤ 1000000 := by omega
  refine ⟨.str ⟨x.cps.reverse⟩, fun S => by simp [h1, revE, hz], _, rfl, ?_, ?_⟩
  · rw [sOk_iff] at h2 ⊢
    intro c hc
    exact h2 c (by simpa using hc)
  · unfold PySem.Str.length at h3 ⊢
    simpa using h3
theorem DE.addT (ha : DE cf B ρ a (TP L P)) (hb : DE cf B ρ b (TP M P)) (h : L + M ≤ 1000000) : DE cf B ρ (.bin .add a b) (TP (L + M) P) := by
  obtain ⟨_, h1, xs, rfl, h2, h3⟩ := ha
  obtain ⟨_, h4, ys, rfl, h5, h6⟩ := hb
  have hz : xs.length + ys.length ≤ 1000000 := by omega
  refine ⟨.tuple (xs ++ ys), fun S => ?_, _, rfl, by rw [List.length_append]; omega, fun x hx => ?_⟩
  · have e : binE B .add (.dat (.tuple xs)) (.dat (.tuple ys)) = some (.dat (.tuple (xs ++ ys))) := by
      show (if lenOk (xs.length + ys.length) = true then _ else _) = _
      rw [if_pos (by rw [lenOk_eq]; simpa using hz)]
    simp [h1, h4, e]
  · rcases List.mem_append.mp hx with q | q
    · exact h3 x q
    · exact h6 x q
theorem DE.addS (ha : DE cf B ρ a (SP L)) (hb : DE cf B ρ b (SP M)) (h : L + M ≤ 1000000) : DE cf B ρ (.bin .add a b) (SP (L + M)) := by
  obtain ⟨_, h1, x, rfl, h2, h3⟩ := ha
  obtain ⟨_, h4, y, rfl, h5, h6⟩ := hb
  have hz : x.length + y.length ≤ 1000000 := by omega
  have el : (x ++ y).cps = x.cps ++ y.cps := rfl
  refine ⟨.str (x ++ y), fun S => ?_, _, rfl, ?_, ?_⟩
  · have e : binE B .add (.dat (.str x)) (.dat (.str y)) = some (.dat (.str (x ++ y))) := by
      show (if lenOk (x.length + y.length) = true then _ else _) = _
      rw [if_pos (by rw [lenOk_eq]; simpa using hz)]
    simp [h1, h4, e]
  · rw [sOk_iff] at h2 h5 ⊢
    intro c hc
    rw [el] at hc
    have hc' : c ∈ x.cps ∨ c ∈ y.cps := by simpa using hc
    rcases hc' with q | q
    · exact h2 c (by simpa using q)
    · exact h5 c (by simpa using q)
  · show (x ++ y).cps.size ≤ _
    rw [el, Array.size_append]
    unfold PySem.Str.length at h3 h6
    omega
theorem DE.addI (ha : DE cf B ρ a IP) (hb : DE cf B ρ b IP) : DE cf B ρ (.bin .add a b) IP := by
  obtain ⟨_, h1, i, rfl⟩ := ha
  obtain ⟨_, h4, j, rfl⟩ := hb
  exact ⟨.int (i + j), fun S => by simp [h1, h4], _, rfl⟩
/-- all of a display -/
def DEs (cf : CallF) (B : Lent) (ρ : Rho) (es : List Ex) (P : D → Prop) : Prop := ∃ ds : List D, (∀ S, eEs cf B es ρ S = .ok (ds.map .dat) S) ∧ ds.length = es.length ∧ ∀ x ∈ ds, P x
theorem DEs.nil : DEs cf B ρ [] P := ⟨[], fun _ => rfl, rfl, fun _ h => by cases h⟩
theorem DEs.cons {es : List Ex} (h : DE cf B ρ e P) (r : DEs cf B ρ es P) : DEs cf B ρ (e :: es) P := by
  obtain ⟨d, h1, h2⟩ := h
  obtain ⟨ds, h3, h4, h5⟩ := r
  refine ⟨d :: ds, fun S => by simp [h1, h3], by simp [h4], fun x hx => ?_⟩
  rcases List.mem_cons.mp hx with q | q
  · rw [q]; exact h2
  · exact h5 x q
theorem dats_map : ∀ ds : List D, dats (ds.map .dat) = some ds
  | [] => rfl
  | d :: ds => by simp [dats_map ds]
theorem DE.tup {es : List Ex} (h : DEs cf B ρ es P) (hl : es.length ≤ 1000000) : DE cf B ρ (.tup es) (TP es.length P) := by
  obtain ⟨ds, h3, h4, h5⟩ := h
  exact ⟨.tuple ds, fun S => by simp [h3, dats_map, h4, hl], ds, rfl, by omega, h5⟩
theorem DE.lst {es : List Ex} (h : DEs cf B ρ es P) (hl : es.length ≤ 1000000) : DE cf B ρ (.lst es) (fun d => ∃ ds, d = .list ds ∧ ds.length = es.length ∧ ∀ x ∈ ds, P x) := by
  obtain ⟨ds, h3, h4, h5⟩ := h
  exact ⟨.list ds, fun S => by simp [h3, dats_map, h4, hl], ds, rfl, by omega, h5⟩
end
end Cw

namespace Cw
open PySem (PyData)
section
variable {cf : CallF} {B : Lent} {ρ : Rho} {S S' : Sta} {c x y : Ex} {r a b : List Sm} {d : D} {P Q : D → Prop} {L M : Nat}
theorem w_if {k : Bool} (h : eT cf B c ρ S = .ok k S') : xSs cf B (.ite c a b :: r) ρ S = (if k then xSs cf B a ρ S' else xSs cf B b ρ S').seq fun ρ1 S1 => xSs cf B r ρ1 S1 := by
  have e : xS cf B (.ite c a b) ρ S = (eT cf B c ρ S).out ρ fun k S2 => if k then xSs cf B a ρ S2 else xSs cf B b ρ S2 := by
    show ((eE cf B c ρ S).out ρ fun v S1 => (Res.of (truth B v) S1).out ρ fun k S2 => if k then xSs cf B a ρ S2 else xSs cf B b ρ S2) = _
    unfold eT
    cases eE cf B c ρ S <;> rfl
  rw [xv_cons, e, h]
  rfl
theorem w_ifF (h : eT cf B c ρ S = .ok false S') : xSs cf B (.ite c a [] :: r) ρ S = xSs cf B r ρ S' := by rw [w_if h]; rfl
theorem w_ifT (h : eT cf B c ρ S = .ok true S') (hx : eE cf B x ρ S' = .ok (.dat d) S1) : xSs cf B (.ite c [.ret x] b :: r) ρ S = .rt d S1 := by
  rw [w_if h]
  simp only [if_true, xv_cons, xv_nil, xv_ret, hx, ev_ook, vv_do, ev_ofs, ev_srt]
theorem w_ifB {o : Out} (h : eT cf B c ρ S = .ok true S') (ho : xSs cf B a ρ S' = o) (hs : ∀ f, o.seq f = o) : xSs cf B (.ite c a b :: r) ρ S = o := by
  rw [w_if h, if_pos rfl, ho, hs]
theorem w_ret (hx : eE cf B x ρ S = .ok (.dat d) S') : xSs cf B (.ret x :: r) ρ S = .rt d S' := by
  simp only [xv_cons, xv_nil, xv_ret, hx, ev_ook, vv_do, ev_ofs, ev_srt]
theorem w_set {i : Nat} (hx : eE cf B x ρ S = .ok (.dat d) S') : xSs cf B (.set i x :: r) ρ S = xSs cf B r (ρ.set i (some (.dat d))) S' := by
  simp only [xv_cons, xv_set, hx, ev_ook, vv_ko, ev_ofs, ev_snx]
theorem srt {d : D} {S : Sta} : ∀ f, (Out.rt d S).seq f = .rt d S := fun _ => rfl
/-- a part put between two others -/
theorem splice {z : Ex} (hA : DE cf B ρ x (TP L P)) (hE : eE cf B y ρ S = .ok (.dat d) S') (pd : P d) (hC : DE cf B ρ z (TP M P)) (hl : L + 1 + M ≤ 1000000) : ∃ ds, eE cf B (.bin .add (.bin .add x (.tup [y])) z) ρ S = .ok (.dat (.tuple ds)) S' ∧ ds.length ≤ L + 1 + M ∧ ∀ u ∈ ds, P u := by
  obtain ⟨_, h1, as, rfl, h2, h3⟩ := hA
  obtain ⟨_, h4, cs, rfl, h5, h6⟩ := hC
  have ad : ∀ (xs ys : List D), xs.length + ys.length ≤ 1000000 → binE B .add (.dat (.tuple xs)) (.dat (.tuple ys)) = some (.dat (.tuple (xs ++ ys))) := fun xs ys h => by
    show (if lenOk (xs.length + ys.length) = true then _ else _) = _
    rw [if_pos (by rw [lenOk_eq]; simpa using h)]
  refine ⟨as ++ [d] ++ cs, ?_, by simp; omega, fun u hu => ?_⟩
  · simp only [ev_bin, h1, ev_bok, ev_tup, ev_cons, ev_nil, hE, vv_d1, vv_d0, Option.map_some, Option.bind_some, List.length_cons, List.length_nil, lenOk_eq, decide_true, if_true, ev_ofs, Nat.zero_add]
    rw [if_pos (by decide)]
    simp only [ev_ofs, ev_bok, ad as [d] (by simp; omega), h4, ad (as ++ [d]) cs (by simp; omega)]
  · simp only [List.mem_append, List.mem_singleton] at hu
    rcases hu with (q | q) | q
    · exact h3 u q
    · rw [q]; exact pd
    · exact h6 u q
end
/-- a value that is told: no lists -/
inductive Tm : Nat → D → Prop
  | non {n : Nat} : Tm n .none
  | bl {n : Nat} (b : Bool) : Tm n (.bool b)
  | int {n : Nat} {i : Int} : i.natAbs < 2 ^ 1000 → Tm n (.int i)
  | str {n : Nat} {x : Tx} : sOk x → x.length ≤ 1000 → Tm n (.str x)
  | tup {n : Nat} {ds : List D} : ds.length ≤ 1000 → (∀ d ∈ ds, Tm n d) → Tm (n + 1) (.tuple ds)
theorem Ok.mono {n m : Nat} {d : D} (h : Ok n d) : n ≤ m → Ok m d := by
  induction h generalizing m with
  | non => exact fun _ => .non
  | bl b => exact fun _ => .bl b
  | int i => exact fun _ => .int i
  | str x => exact fun _ => .str x
  | dic => exact fun _ => .dic
  | tup h1 h2 ih =>
    intro hm
    cases m with
    | zero => omega
    | succ m => exact .tup h1 fun d hd => ih d hd (by omega)
  | lst h1 h2 ih =>
    intro hm
    cases m with
    | zero => omega
    | succ m => exact .lst h1 fun d hd => ih d hd (by omega)
theorem Tm.ok {n : Nat} {d : D} (h : Tm n d) : Ok n d := by
  induction h with
  | non => exact .non
  | bl b => exact .bl b
  | int _ => exact .int _
  | str h _ => exact .str h
  | tup h1 h2 ih => exact .tup (by omega) ih
theorem Tm.can {n : Nat} {d : D} (h : Tm n d) : d.canLay0 = true ∧ d.depth ≤ n + 1 := by
  induction h with
  | non => exact ⟨rfl, by simp [PyData.depth]⟩
  | bl b => exact ⟨rfl, by simp [PyData.depth]⟩
  | int _ => exact ⟨rfl, by simp [PyData.depth]⟩
  | str h _ => exact ⟨h, by simp [PyData.depth]⟩
  | @tup n ds h1 h2 ih =>
    have key : ∀ (ds : List D), (∀ d ∈ ds, d.canLay0 = true ∧ d.depth ≤ n + 1) → PyData.canLayAll0 ds = true ∧ PyData.depthAll ds ≤ n + 1 := by
      intro ds
      induction ds with
      | nil => exact fun _ => ⟨rfl, by simp [PyData.depthAll]⟩
      | cons x xs ih2 =>
        intro h
        obtain ⟨a1, a2⟩ := h x List.mem_cons_self
        obtain ⟨b1, b2⟩ := ih2 fun d hd => h d (List.mem_cons_of_mem _ hd)
        refine ⟨by simp [PyData.canLayAll0, a1, b1], ?_⟩
        simp only [PyData.depthAll]
        omega
    obtain ⟨a, b⟩ := key ds ih
    exact ⟨a, by simp only [PyData.depth]; omega⟩
theorem Tm.shaped {n : Nat} {d : D} (h : Tm n d) (hn : n ≤ 60) : PySem.SeqAt.shaped d = true := by
  obtain ⟨a, b⟩ := h.can
  unfold PySem.SeqAt.shaped
  rw [a, decide_eq_true (show d.depth ≤ 64 by omega)]
  rfl
/-- a text of an int -/
theorem sOk_str (s : String) : sOk (PySem.Str.ofString s) := by
  rw [sOk_iff]
  intro c hc
  have : ∃ ch : Char, c = ch.toNat := by
    rw [PyProof.Rows.signs_ofString, List.mem_map] at hc
    obtain ⟨ch, _, e⟩ := hc
    exact ⟨ch, e.symm⟩
  obtain ⟨ch, rfl⟩ := this
  exact ch.valid.elim (fun h => by show ch.val.toNat < _; omega) fun h => by show ch.val.toNat < _; omega
section
variable {Δ : List Fd} {I : Ix} {m : Nat} {B : Lent} {ρ : Rho} {S : Sta} {x : Ex} {P : D → Prop}
/-- a draw within an expression -/
theorem draw (h : Δ[I.law_next]? = some (s_law_next I)) (hS : StaOk S) (hst : ρ[0]? = some (some .st)) {l : Nat} (hx : DE (run Δ (m + 1)) B ρ x fun d => d = .int (l : Nat)) (h0 : 0 < l) (h1 : l ≤ 10000000) : ∃ (v : Nat) (S' : Sta), eE (run Δ (m + 1)) B (.call I.law_next [.v 0, x]) ρ S = .ok (.dat (.int (v : Nat))) S' ∧ v < l ∧ StaOk S' := by
  obtain ⟨_, hx1, rfl⟩ := hx
  obtain ⟨v, S', e, a, b, c⟩ := next_run (Δ := Δ) (I := I) (n := m) (B := []) h hS (l := l) (by omega) (fit_small (by
    have : (l : Int).natAbs = l := by omega
    rw [this]
    exact Nat.lt_of_le_of_lt h1 (by decide)))
  refine ⟨v.toNat, S', ?_, by omega, c⟩
  have ev : ((v.toNat : Nat) : Int) = v := by omega
  simp only [ev_call, ev_cons, ev_nil, ev_v hst, ev_bok, hx1, vv_ps, vv_pd, vv_p0, Option.map_some, ev_ofs, e, ev]
/-- one of a list that is shown -/
theorem pick (h : Δ[I.law_next]? = some (s_law_next I)) (hS : StaOk S) (hst : ρ[0]? = some (some .st)) {es : List Ex} (hes : DEs (run Δ (m + 1)) B ρ es P) (h0 : 0 < es.length) (h1 : es.length ≤ 1000000) (hx : DE (run Δ (m + 1)) B ρ x fun d => d = .int (es.length : Nat)) :
    ∃ d S', eE (run Δ (m + 1)) B (.sub (.lst es) (.call I.law_next [.v 0, x])) ρ S = .ok (.dat d) S' ∧ P d ∧ StaOk S' := by
  obtain ⟨_, e1, ds, rfl, e2, e3⟩ := DE.lst hes h1
  obtain ⟨v, S', e4, e5, e6⟩ := draw (Δ := Δ) (I := I) h hS hst hx h0 (by omega)
  have hv : v < ds.length := by omega
  refine ⟨ds[v], S', ?_, e3 _ (List.getElem_mem hv), e6⟩
  simp only [ev_sub, e1, ev_bok, e4, vv_subl, at_nat (List.getElem?_eq_getElem hv), Option.map_some, ev_ofs]
/-- one of a list in a slot -/
theorem pickv (h : Δ[I.law_next]? = some (s_law_next I)) (hS : StaOk S) (hst : ρ[0]? = some (some .st)) {i : Nat} {ds : List D} (hi : ρ[i]? = some (some (.dat (.list ds)))) (hp : ∀ d ∈ ds, P d) (h0 : 0 < ds.length) (h1 : ds.length ≤ 1000000) :
    ∃ d S', eE (run Δ (m + 1)) B (.sub (.v i) (.call I.law_next [.v 0, .blt .len [.v i]])) ρ S = .ok (.dat d) S' ∧ P d ∧ StaOk S' := by
  obtain ⟨v, S', e4, e5, e6⟩ := draw (Δ := Δ) (I := I) (m := m) (B := B) (x := .blt .len [.v i]) h hS hst ⟨_, fun S => by simp only [ev_blt, ev_cons, ev_nil, ev_v hi, ev_bok, vv_lenl, ev_ofs], rfl⟩ h0 (by omega)
  refine ⟨ds[v], S', ?_, hp _ (List.getElem_mem e5), e6⟩
  simp only [ev_sub, ev_v hi, ev_bok, e4, vv_subl, at_nat (List.getElem?_eq_getElem e5), Option.map_some, ev_ofs]
end
end Cw

namespace Cw
open PySem (PyData)
/-- what a draw's def gives -/
def Gv (r : Res D) (P : D → Prop) : Prop := ∃ d S', r = .ok d S' ∧ P d ∧ StaOk S'
section
variable {Δ : List Fd} {I : Ix} {n m : Nat} {B : Lent} {S : Sta} {cf : CallF} {ρ : Rho}
theorem t_isi {x : Ex} {ts : List Ty} {o k : Bool} {d : D} (hx : eE cf B x ρ S = .ok (.dat d) S) (h : tyAny (.dat d) ts = some k) : eT cf B (.isi x ts o) ρ S = .ok k S := by
  unfold eT
  simp only [ev_isi, hx, ev_bok, h, Option.map_some, ev_ofs, vv_tb]
theorem at_app {d : D} {S' : Sta} {body : List Sm} (h : xSs cf B body ρ S = .rt d S') : (xSs cf B body ρ S).fin = .ok d S' := by rw [h]; rfl
theorem ne_nil {ds : List D} {k : Nat} (h : Tm k (.tuple ds)) (hk : k ≤ 60) : cmpE B .ne (.dat (.tuple ds)) (.dat (.tuple [])) = some (!ds.isEmpty) ∧ cmpE B .eq (.dat (.tuple ds)) (.dat (.tuple [])) = some ds.isEmpty := by
  have h1 := h.shaped hk
  have h2 : PySem.SeqAt.shaped (.tuple []) = true := by decide
  have e : eqE B (.dat (.tuple ds)) (.dat (.tuple [])) = some ds.isEmpty := by
    show (if (PySem.SeqAt.shaped (.tuple ds) && PySem.SeqAt.shaped (.tuple [])) = true then some (PyData.eqv (.tuple ds) (.tuple [])) else none) = _
    rw [h1, h2, if_pos (by rfl)]
    cases ds <;> rfl
  refine ⟨?_, e⟩
  show (eqE B _ _).map (!·) = _
  rw [e]
  rfl
theorem c_str {s : String} {L : Nat} (h : (PySem.Str.ofString s).length ≤ L) : DE cf B ρ (.c (.str (PySem.Str.ofString s))) (SP L) := .con ⟨_, rfl, sOk_str s, h⟩
theorem changed_run (hN : Δ[I.law_next]? = some (s_law_next I)) (h : Δ[I.law_changed]? = some (s_law_changed I)) : ∀ (n : Nat) (v : D), Tm n v → n ≤ 60 → ∀ (m : Nat) (B : Lent) (S : Sta), n + 2 ≤ m → StaOk S → Gv (run Δ m I.law_changed [.st, .dat v] B S) (Ok (n + 2))
  | n, v, hv, hn, 0, B, S, hm, hS => absurd hm (by omega)
  | n, v, hv, hn, 1, B, S, hm, hS => absurd hm (by omega)
  | n, v, hv, hn, m + 2, B, S, hm, hS => by
    rw [run_at h rfl]
    have hρ1 : (List.map some [EV.st, EV.dat v] ++ List.replicate ((s_law_changed I).nn - (s_law_changed I).np) none) = [some .st, some (.dat v), none, none, none, none, none] := rfl
    rw [hρ1]
    cases hv with
    | bl b =>
      obtain ⟨d, S', e, p, q⟩ := pick (P := Ok (n + 2)) (m := m) (B := B) (ρ := [some .st, some (.dat (.bool b)), none, none, none, none, none]) (es := [.not (.v 1), .blt .int [.v 1]]) (x := .c (.int 2)) hN hS rfl
        (.cons ⟨.bool (!b), fun S => by simp, .bl _⟩ (.cons ⟨.int (if b then 1 else 0), fun S => by simp [bltE], .int _⟩ .nil)) (by decide) (by decide) ⟨_, fun _ => rfl, rfl⟩
      exact ⟨d, S', at_app (w_ifT (t_isi (d := .bool b) rfl rfl) e), p, q⟩
    | non =>
      obtain ⟨d, S', e, p, q⟩ := pick (P := Ok (n + 2)) (m := m) (B := B) (ρ := [some .st, some (.dat .none), none, none, none, none, none]) (es := [(.bin .add (.ors [(.v 1), (.c (.int 0))]) (.c (.int 1))), (.bin .sub (.ors [(.v 1), (.c (.int 0))]) (.c (.int 1))), (.c (.int 0)), (.c .none), (.cmp .eq (.v 1) (.c (.int 1))), (.blt .str [(.v 1)]), (.bin .mul (.c (.int 2)) (.ors [(.v 1), (.c (.int 1))]))]) (x := .c (.int 7)) hN hS rfl
        (.cons ⟨.int 1, fun S => by simp [truth], .int _⟩ (.cons ⟨.int (-1), fun S => by simp [truth], .int _⟩ (.cons (.con (.int _)) (.cons (.con .non) (.cons ⟨.bool false, fun S => rfl, .bl _⟩ (.cons ⟨.str (PySem.Str.ofString "None"), fun S => rfl, .str (sOk_str "None")⟩ (.cons ⟨.int 2, fun S => by simp [truth, vv_mul (show fit 2 = true from fit_small (by decide)) (show fit 1 = true from fit_small (by decide))], .int _⟩ .nil))))))) (by decide) (by decide) ⟨_, fun _ => rfl, rfl⟩
      refine ⟨d, S', at_app ?_, p, q⟩
      rw [s_law_changed, w_ifF (t_isi (d := .none) rfl rfl), w_ifT ?_ e]
      rfl
    | @int _ i hi =>
      have b1 : fit 2 = true := fit_small (by decide)
      have b2 : fit 1 = true := fit_small (by decide)
      have b3 : fit i = true := fit_of (Nat.lt_of_lt_of_le hi (Nat.pow_le_pow_right (by omega) (by omega)))
      have b4 : Nat.blt i.natAbs.log2 1920 = true := by
        rw [Nat.blt_eq]
        by_cases h0 : i.natAbs = 0
        · rw [h0, Nat.log2_zero]; omega
        · exact (Nat.log2_lt h0).mpr (Nat.lt_of_lt_of_le hi (Nat.pow_le_pow_right (by omega) (by omega)))
      have b5 : i.natAbs.log2 < 1920 := by rwa [Nat.blt_eq] at b4
      obtain ⟨d, S', e, p, q⟩ := pick (P := Ok (n + 2)) (m := m) (B := B) (ρ := [some .st, some (.dat (.int i)), none, none, none, none, none]) (es := [(.bin .add (.ors [(.v 1), (.c (.int 0))]) (.c (.int 1))), (.bin .sub (.ors [(.v 1), (.c (.int 0))]) (.c (.int 1))), (.c (.int 0)), (.c .none), (.cmp .eq (.v 1) (.c (.int 1))), (.blt .str [(.v 1)]), (.bin .mul (.c (.int 2)) (.ors [(.v 1), (.c (.int 1))]))]) (x := .c (.int 7)) hN hS rfl
        (.cons ⟨.int (i + 1), fun S => by by_cases h0 : i = 0 <;> simp [h0], .int _⟩ (.cons ⟨.int (i - 1), fun S => by by_cases h0 : i = 0 <;> simp [h0], .int _⟩ (.cons (.con (.int _)) (.cons (.con .non) (.cons ⟨.bool (i == 1), fun S => by simp, .bl _⟩ (.cons ⟨.str (PySem.Str.ofString (toString i)), fun S => by simp [bltE, b5], .str (sOk_str _)⟩ (.cons ⟨.int (2 * (if i = 0 then 1 else i)), fun S => by by_cases h0 : i = 0 <;> simp [h0, vv_mul b1 b2, vv_mul b1 b3], .int _⟩ .nil))))))) (by decide) (by decide) ⟨_, fun _ => rfl, rfl⟩
      refine ⟨d, S', at_app ?_, p, q⟩
      rw [s_law_changed, w_ifF (t_isi (d := .int i) rfl rfl), w_ifT ?_ e]
      rfl
    | @str _ x hx hl =>
      have hv : DE (run Δ (m + 1)) B [some .st, some (.dat (.str x)), none, none, none, none, none] (.v 1) (SP 1000) := .v rfl ⟨x, rfl, hx, hl⟩
      have ci : ∀ i : Int, DE (run Δ (m + 1)) B [some .st, some (.dat (.str x)), none, none, none, none, none] (.c (.int i)) IP := fun i => .con ⟨_, rfl⟩
      have so : ∀ {L : Nat} d, SP L d → Ok (n + 2) d := fun d ⟨x, e, h, _⟩ => by rw [e]; exact .str h
      have cu : Cuts B (SP 1000) := cutsS (by omega)
      obtain ⟨_, e1, ds, rfl, e2, e3⟩ := DE.lst (cf := run Δ (m + 1)) (B := B) (ρ := [some .st, some (.dat (.str x)), none, none, none, none, none]) (P := Ok (n + 2)) (es := [(.slcL (.v 1) (.c (.int 1))), (.bin .add (.v 1) (.c (.str (PySem.Str.ofString "a")))), (.rev (.v 1)), (.bin .add (.c (.str (PySem.Str.ofString "b"))) (.v 1)), (.c (.str (PySem.Str.ofString ""))), (.slcH (.v 1) (.neg (.c (.int 1)))), (.c (.str (PySem.Str.ofString "left"))), (.c (.int 3)), (.c (.str (PySem.Str.ofString "in")))])
        (.cons ((DE.slcL cu hv (ci 1)).imp so) (.cons ((DE.addS hv (c_str (L := 1) (by decide)) (by omega)).imp so) (.cons ((DE.revS (by omega) hv).imp so) (.cons ((DE.addS (c_str (L := 1) (by decide)) hv (by omega)).imp so) (.cons (.con (.str (sOk_str _))) (.cons ((DE.slcH cu hv ⟨.int (-1), fun _ => rfl, _, rfl⟩).imp so) (.cons (.con (.str (sOk_str _))) (.cons (.con (.int _)) (.cons (.con (.str (sOk_str _))) .nil))))))))) (by decide)
      have e2' : ds.length = 9 := e2
      obtain ⟨d, S', e, p, q⟩ := pickv (P := Ok (n + 2)) (m := m) (B := B) (ρ := [some .st, some (.dat (.str x)), none, none, none, some (.dat (.list ds)), none]) (i := 5) (ds := ds) hN hS rfl rfl e3 (by omega) (by omega)
      refine ⟨d, S', at_app ?_, p, q⟩
      rw [s_law_changed, w_ifF (t_isi (d := .str x) rfl rfl), w_ifF (S' := S) rfl]
      refine w_ifB (t_isi (d := .str x) rfl rfl) ?_ srt
      rw [w_set (e1 S)]
      exact w_ret e
    | @tup n' ds hl hd =>
      have hvt : Tm (n' + 1) (.tuple ds) := .tup hl hd
      obtain ⟨ne1, ne2⟩ := ne_nil (B := B) hvt hn
      have okv : Ok (n' + 1) (.tuple ds) := hvt.ok
      rw [s_law_changed, w_ifF (t_isi (d := .tuple ds) rfl rfl), w_ifF (S' := S) rfl, w_ifF (t_isi (d := .tuple ds) rfl rfl)]
      have len1 : ∀ ρ : Rho, ρ[1]? = some (some (.dat (.tuple ds))) → DE (run Δ (m + 1)) B ρ (.blt .len [.v 1]) (fun d => d = .int (ds.length : Nat)) := fun ρ hρ => ⟨_, fun S => by simp only [ev_blt, ev_cons, ev_nil, ev_v hρ, ev_bok, vv_len, ev_ofs], rfl⟩
      have len2 : ∀ ρ : Rho, ρ[1]? = some (some (.dat (.tuple ds))) → DE (run Δ (m + 1)) B ρ (.bin .add (.blt .len [.v 1]) (.c (.int 1))) (fun d => d = .int ((ds.length + 1 : Nat) : Nat)) := fun ρ hρ => by
        obtain ⟨_, q, rfl⟩ := len1 ρ hρ
        exact ⟨_, fun S => by simp only [ev_bin, q, ev_bok, ev_c, vv_add, ev_ofs]; rfl, rfl⟩
      -- behind the first choice
      have rest : ∀ S1, StaOk S1 → Gv ((xSs (run Δ (m + 1)) B ((s_law_changed I).body.drop 4) [some .st, some (.dat (.tuple ds)), none, none, none, none, none] S1).fin) (Ok (n' + 1 + 2)) := fun S1 hS1 => by
        obtain ⟨k, S2, e2, hk, hS2⟩ := draw (Δ := Δ) (I := I) (m := m) (B := B) (ρ := [some .st, some (.dat (.tuple ds)), none, none, none, none, none]) hN hS1 rfl (len2 _ rfl) (by omega) (by omega)
        obtain ⟨j, S3, e3, hj, hS3⟩ := draw (Δ := Δ) (I := I) (m := m) (B := B) (ρ := [some .st, some (.dat (.tuple ds)), some (.dat (.int k)), none, none, none, none]) hN hS2 rfl (len2 _ rfl) (by omega) (by omega)
        have hv : ∀ ρ : Rho, ρ[1]? = some (some (.dat (.tuple ds))) → DE (run Δ (m + 1)) B ρ (.v 1) (TP 1000 (Ok n')) := fun ρ h => .v h ⟨ds, rfl, hl, fun d hd' => (hd d hd').ok⟩
        have ci : ∀ (ρ : Rho) (i : Int), DE (run Δ (m + 1)) B ρ (.c (.int i)) IP := fun ρ i => .con ⟨_, rfl⟩
        have ct : Cuts B (TP 1000 (Ok n')) := cutsT
        have to : ∀ {L : Nat} d, L ≤ 1000000 → TP L (Ok n') d → Ok (n' + 1 + 2) d := fun {L} d hL ⟨xs, e, h1, h2⟩ => by
          rw [e]
          exact (Ok.tup (by omega) h2).mono (by omega)
        have d4 : DEs (run Δ (m + 1)) B [some .st, some (.dat (.tuple ds)), some (.dat (.int k)), some (.dat (.int j)), none, none, none] [(.bin .add (.slcH (.v 1) (.v 2)) (.slcL (.v 1) (.bin .add (.v 2) (.c (.int 1))))), (.bin .add (.v 1) (.slcH (.v 1) (.c (.int 1)))), (.rev (.v 1)), (.bin .add (.slcL (.v 1) (.v 2)) (.slcH (.v 1) (.v 2))), (.blt .list [(.v 1)]), (.slcH (.v 1) (.v 2)), (.tup []), (.bin .add (.v 1) (.tup [(.c (.int 0))]))] (Ok (n' + 1 + 2)) := by
          have hk' : DE (run Δ (m + 1)) B [some .st, some (.dat (.tuple ds)), some (.dat (.int k)), some (.dat (.int j)), none, none, none] (.v 2) IP := .v rfl ⟨_, rfl⟩
          have v1 := hv [some .st, some (.dat (.tuple ds)), some (.dat (.int k)), some (.dat (.int j)), none, none, none] rfl
          exact .cons ((DE.addT (.slcH ct v1 hk') (.slcL ct v1 (.addI hk' (ci _ 1))) (by omega)).imp fun d => to d (by omega)) (.cons ((DE.addT v1 (.slcH ct v1 (ci _ 1)) (by omega)).imp fun d => to d (by omega)) (.cons ((DE.revT v1).imp fun d => to d (by omega)) (.cons ((DE.addT (.slcL ct v1 hk') (.slcH ct v1 hk') (by omega)).imp fun d => to d (by omega))
            (.cons ⟨.list ds, fun S => by simp [bltE, seqOf], (Ok.lst (n := n') (by omega) fun d hd' => (hd d hd').ok).mono (by omega)⟩ (.cons ((DE.slcH ct v1 hk').imp fun d => to d (by omega)) (.cons ⟨.tuple [], fun S => by simp, .tup (by simp) fun _ h => by cases h⟩ (.cons ((DE.addT (M := 1) v1 (DE.tup (es := [.c (.int 0)]) (.cons (.con (.int 0)) .nil) (by decide)) (by omega)).imp fun d => to d (by omega)) .nil)))))))
        obtain ⟨_, f1, xs, rfl, f2, f3⟩ := DE.lst d4 (by decide)
        have f2' : xs.length = 8 := f2
        have go : ∀ ys : List D, 0 < ys.length → ys.length ≤ 1000 → (∀ d ∈ ys, Ok (n' + 1 + 2) d) → Gv ((xSs (run Δ (m + 1)) B ((s_law_changed I).body.drop 9) [some .st, some (.dat (.tuple ds)), some (.dat (.int k)), some (.dat (.int j)), some (.dat (.list ys)), none, none] S3).fin) (Ok (n' + 1 + 2)) := fun ys h0 h1 hp => by
          obtain ⟨d, S', e, p, q⟩ := pickv (P := Ok (n' + 1 + 2)) (m := m) (B := B) (ρ := [some .st, some (.dat (.tuple ds)), some (.dat (.int k)), some (.dat (.int j)), some (.dat (.list ys)), none, none]) (i := 4) (ds := ys) hN hS3 rfl rfl hp h0 (by omega)
          exact ⟨d, S', at_app (w_ret e), p, q⟩
        have top : xSs (run Δ (m + 1)) B ((s_law_changed I).body.drop 4) [some .st, some (.dat (.tuple ds)), none, none, none, none, none] S1 = xSs (run Δ (m + 1)) B ((s_law_changed I).body.drop 8) [some .st, some (.dat (.tuple ds)), some (.dat (.int k)), some (.dat (.int j)), some (.dat (.list xs)), none, none] S3 := by
          show xSs _ _ (.ite (.not (.isi (.v 1) [.tuple] true)) [.ret (.tup [])] [] :: _) _ _ = _
          rw [w_ifF (S' := S1) rfl, w_set e2, List.set_cons_succ, List.set_cons_succ, List.set_cons_zero, w_set e3, List.set_cons_succ, List.set_cons_succ, List.set_cons_succ, List.set_cons_zero, w_set (f1 S3)]
          rfl
        rw [top]
        by_cases c1 : (k : Int) < j ∧ (j : Int) < ds.length
        · have d6 : ∀ i ∈ rngL 0 3, DE (run Δ (m + 1)) B [some .st, some (.dat (.tuple ds)), some (.dat (.int k)), some (.dat (.int j)), some (.dat (.list xs)), none, some (.dat i)] (.bin .add (.bin .add (.bin .add (.bin .add (.slcH (.v 1) (.v 2)) (.slcB (.v 1) (.v 3) (.bin .add (.v 3) (.c (.int 1))))) (.slcB (.v 1) (.bin .add (.v 2) (.c (.int 1))) (.v 3))) (.slcB (.v 1) (.v 2) (.bin .add (.v 2) (.c (.int 1))))) (.slcL (.v 1) (.bin .add (.v 3) (.c (.int 1))))) (Ok (n' + 1 + 2)) := fun i _ => by
            have hk' : DE (run Δ (m + 1)) B [some .st, some (.dat (.tuple ds)), some (.dat (.int k)), some (.dat (.int j)), some (.dat (.list xs)), none, some (.dat i)] (.v 2) IP := .v rfl ⟨_, rfl⟩
            have hj' : DE (run Δ (m + 1)) B [some .st, some (.dat (.tuple ds)), some (.dat (.int k)), some (.dat (.int j)), some (.dat (.list xs)), none, some (.dat i)] (.v 3) IP := .v rfl ⟨_, rfl⟩
            have v1 := hv [some .st, some (.dat (.tuple ds)), some (.dat (.int k)), some (.dat (.int j)), some (.dat (.list xs)), none, some (.dat i)] rfl
            exact (DE.addT (.addT (.addT (.addT (.slcH ct v1 hk') (.slcB ct v1 hj' (.addI hj' (ci _ 1))) (by omega)) (.slcB ct v1 (.addI hk' (ci _ 1)) hj') (by omega)) (.slcB ct v1 hk' (.addI hk' (ci _ 1))) (by omega)) (.slcL ct v1 (.addI hj' (ci _ 1))) (by omega)).imp fun d => to d (by omega)
          obtain ⟨u0, g0, p0⟩ := d6 (.int 0) (by simp [rngL])
          obtain ⟨u1, g1, p1⟩ := d6 (.int 1) (by simp [rngL])
          obtain ⟨u2, g2, p2⟩ := d6 (.int 2) (by simp [rngL])
          have gg := go (xs ++ [u0, u1, u2]) (by simp) (by simp; omega) fun d hd' => by
            rcases List.mem_append.mp hd' with q | q
            · exact f3 d q
            · simp only [List.mem_cons, List.not_mem_nil, or_false] at q
              rcases q with rfl | rfl | rfl <;> assumption
          have mid : xSs (run Δ (m + 1)) B ((s_law_changed I).body.drop 8) [some .st, some (.dat (.tuple ds)), some (.dat (.int k)), some (.dat (.int j)), some (.dat (.list xs)), none, none] S3 = xSs (run Δ (m + 1)) B ((s_law_changed I).body.drop 9) [some .st, some (.dat (.tuple ds)), some (.dat (.int k)), some (.dat (.int j)), some (.dat (.list (xs ++ [u0, u1, u2]))), none, none] S3 := by
            have hc : eT (run Δ (m + 1)) B (.chn .lt .lt (.v 2) (.v 3) (.blt .len [.v 1])) [some .st, some (.dat (.tuple ds)), some (.dat (.int k)), some (.dat (.int j)), some (.dat (.list xs)), none, none] S3 = .ok true S3 := by
              have a1 := c1.1
              have a2 := c1.2
              unfold eT
              simp only [ev_chn, ev_v0, ev_vs, ev_bok, vv_lt, a1, decide_true, ev_ofs, if_true, ev_blt, ev_cons, ev_nil, vv_len, a2, Option.map_some, vv_tb]
            have he : ∀ (E : Ex), (∀ S, eE (run Δ (m + 1)) B E [some .st, some (.dat (.tuple ds)), some (.dat (.int k)), some (.dat (.int j)), some (.dat (.list xs)), none, some (.dat (.int 0))] S = .ok (.dat u0) S) → (∀ S, eE (run Δ (m + 1)) B E [some .st, some (.dat (.tuple ds)), some (.dat (.int k)), some (.dat (.int j)), some (.dat (.list xs)), none, some (.dat (.int 1))] S = .ok (.dat u1) S) → (∀ S, eE (run Δ (m + 1)) B E [some .st, some (.dat (.tuple ds)), some (.dat (.int k)), some (.dat (.int j)), some (.dat (.list xs)), none, some (.dat (.int 2))] S = .ok (.dat u2) S) →
                eE (run Δ (m + 1)) B (.bin .add (.v 4) (.lc [6] (.v 6) (.rng1 (.c (.int 3))) [] E)) [some .st, some (.dat (.tuple ds)), some (.dat (.int k)), some (.dat (.int j)), some (.dat (.list xs)), none, none] S3 = .ok (.dat (.list (xs ++ [u0, u1, u2]))) S3 := fun E h0 h1 h2 => by
              have hr : rng1Of (.dat (.int 3)) = some [.int 0, .int 1, .int 2] := rfl
              have ad : binE B .add (.dat (.list xs)) (.dat (.list [u0, u1, u2])) = some (.dat (.list (xs ++ [u0, u1, u2]))) := by
                show (if lenOk (xs.length + 3) = true then _ else _) = _
                rw [if_pos (by rw [lenOk_eq]; simp; omega)]
              simp only [ev_bin, ev_v0, ev_vs, ev_bok, ev_lc, ev_srng1, ev_c, hr, ev_ofs, wipeR, List.set_cons_succ, List.set_cons_zero, lcR_cons, bp_v, ev_cnil, if_true, h0, h1, h2, lcR_nil, ev_str, List.length_cons, List.length_nil, lenOk_eq]
              rw [if_pos (by simp)]
              simp only [ev_bok, ad, ev_ofs]
            have hx := he _ g0 g1 g2
            show xSs _ _ (.ite (.chn .lt .lt (.v 2) (.v 3) (.blt .len [.v 1])) [.set 4 _] [] :: _) _ _ = _
            rw [w_if hc, if_pos rfl, w_set hx]
            rfl
          rw [mid]
          exact gg
        · have mid : xSs (run Δ (m + 1)) B ((s_law_changed I).body.drop 8) [some .st, some (.dat (.tuple ds)), some (.dat (.int k)), some (.dat (.int j)), some (.dat (.list xs)), none, none] S3 = xSs (run Δ (m + 1)) B ((s_law_changed I).body.drop 9) [some .st, some (.dat (.tuple ds)), some (.dat (.int k)), some (.dat (.int j)), some (.dat (.list xs)), none, none] S3 := by
            have hc : eT (run Δ (m + 1)) B (.chn .lt .lt (.v 2) (.v 3) (.blt .len [.v 1])) [some .st, some (.dat (.tuple ds)), some (.dat (.int k)), some (.dat (.int j)), some (.dat (.list xs)), none, none] S3 = .ok false S3 := by
              unfold eT
              by_cases a1 : (k : Int) < j
              · have a2 : ¬ (j : Int) < ds.length := fun z => c1 ⟨a1, z⟩
                simp only [ev_chn, ev_v0, ev_vs, ev_bok, vv_lt, a1, decide_true, ev_ofs, if_true, ev_blt, ev_cons, ev_nil, vv_len, a2, decide_false, Option.map_some, vv_tb]
              · simp only [ev_chn, ev_v0, ev_vs, ev_bok, vv_lt, a1, decide_false, ev_ofs, Bool.false_eq_true, if_false, vv_tb]
            show xSs _ _ (.ite (.chn .lt .lt (.v 2) (.v 3) (.blt .len [.v 1])) [.set 4 _] [] :: _) _ _ = _
            rw [w_ifF hc]
            rfl
          rw [mid]
          exact go xs (by omega) (by omega) f3
      cases ds with
      | nil =>
        have hc : eT (run Δ (m + 1)) B (.ands [.isi (.v 1) [.tuple] true, .cmp .ne (.v 1) (.tup []), .cmp .gt (.call I.law_next [.v 0, .c (.int 4)]) (.c (.int 0))]) [some .st, some (.dat (.tuple [])), none, none, none, none, none] S = .ok false S := rfl
        rw [w_ifF hc]
        exact rest S hS
      | cons x xs =>
        obtain ⟨v, S1, e1, hv1, hS1⟩ := draw (Δ := Δ) (I := I) (m := m) (B := B) (ρ := [some .st, some (.dat (.tuple (x :: xs))), none, none, none, none, none]) (x := .c (.int 4)) (l := 4) hN hS rfl ⟨_, fun _ => rfl, rfl⟩ (by decide) (by decide)
        have hc : eT (run Δ (m + 1)) B (.ands [.isi (.v 1) [.tuple] true, .cmp .ne (.v 1) (.tup []), .cmp .gt (.call I.law_next [.v 0, .c (.int 4)]) (.c (.int 0))]) [some .st, some (.dat (.tuple (x :: xs))), none, none, none, none, none] S = .ok (decide ((0 : Int) < v)) S1 := by
          have t1 : tyAny (.dat (.tuple (x :: xs))) [.tuple] = some true := rfl
          have tn : ∀ (ρ : Rho) (S : Sta), eE (run Δ (m + 1)) B (.tup []) ρ S = .ok (.dat (.tuple [])) S := fun _ _ => rfl
          unfold eT
          simp only [ev_ands, ev_ands1, ev_isi, ev_v0, ev_vs, ev_bok, t1, Option.map_some, ev_ofs, vv_tb, if_true, ev_cmp, tn, ne1, List.isEmpty_cons, Bool.not_false, e1, ev_c, vv_gt]
        cases hz : decide ((0 : Int) < v) with
        | false =>
          rw [hz] at hc
          rw [w_ifF hc]
          exact rest S1 hS1
        | true =>
          rw [hz] at hc
          obtain ⟨k, S2, e2, hk, hS2⟩ := draw (Δ := Δ) (I := I) (m := m) (B := B) (ρ := [some .st, some (.dat (.tuple (x :: xs))), none, none, none, none, none]) hN hS1 rfl (len1 _ rfl) (by simp) (by omega)
          have hget : (x :: xs)[k]? = some (x :: xs)[k] := List.getElem?_eq_getElem hk
          have hit := hd _ (List.getElem_mem hk)
          obtain ⟨d, S3, e3, p3, hS3⟩ := changed_run hN h n' _ hit (by omega) (m + 1) [] S2 (by omega) hS2
          have ecall : eE (run Δ (m + 1)) B (.call I.law_changed [.v 0, .sub (.v 1) (.v 2)]) [some .st, some (.dat (.tuple (x :: xs))), some (.dat (.int k)), none, none, none, none] S2 = .ok (.dat d) S3 := by
            simp only [ev_call, ev_cons, ev_nil, ev_v0, ev_vs, ev_bok, ev_sub, vv_sub_t, at_nat hget, Option.map_some, ev_ofs, vv_ps, vv_pd, vv_p0, e3]
          have hv : DE (run Δ (m + 1)) B [some .st, some (.dat (.tuple (x :: xs))), some (.dat (.int k)), none, none, none, none] (.v 1) (TP 1000 (Ok (n' + 2))) := .v rfl ⟨_, rfl, hl, fun d hd' => (hd d hd').ok.mono (by omega)⟩
          have hk' : DE (run Δ (m + 1)) B [some .st, some (.dat (.tuple (x :: xs))), some (.dat (.int k)), none, none, none, none] (.v 2) IP := .v rfl ⟨_, rfl⟩
          obtain ⟨us, e4, l4, p4⟩ := splice (.slcH cutsT hv hk') ecall p3 (.slcL cutsT hv (.addI hk' (.con ⟨1, rfl⟩))) (by omega)
          refine ⟨.tuple us, S3, at_app ?_, .tup (by omega) p4, hS3⟩
          refine w_ifB hc ?_ srt
          rw [w_set e2]
          exact w_ret e4
end
end Cw

namespace Cw
open PySem (PyData)
/-- numbers and tuples of such -/
inductive Nm : Nat → D → Prop
  | int {n : Nat} {i : Int} : i.natAbs < 2 ^ 1000 → Nm n (.int i)
  | tup {n : Nat} {ds : List D} : ds.length ≤ 1000 → (∀ d ∈ ds, Nm n d) → Nm (n + 1) (.tuple ds)
theorem Nm.tm {n : Nat} {d : D} (h : Nm n d) : Tm n d := by
  induction h with
  | int h => exact .int h
  | tup h1 h2 ih => exact .tup h1 ih
theorem Tm.mono {n m : Nat} {d : D} (h : Tm n d) : n ≤ m → Tm m d := by
  induction h generalizing m with
  | non => exact fun _ => .non
  | bl b => exact fun _ => .bl b
  | int i => exact fun _ => .int i
  | str x y => exact fun _ => .str x y
  | tup h1 h2 ih =>
    intro hm
    cases m with
    | zero => omega
    | succ m => exact .tup h1 fun d hd => ih d hd (by omega)
theorem shapedL {n : Nat} {ds : List D} (h : ∀ d ∈ ds, Tm n d) (hn : n ≤ 60) : PySem.SeqAt.shaped (.list ds) = true := by
  have key : ∀ (ds : List D), (∀ d ∈ ds, Tm n d) → PyData.canLayAll0 ds = true ∧ PyData.depthAll ds ≤ n + 1 := by
    intro ds
    induction ds with
    | nil => exact fun _ => ⟨rfl, by simp [PyData.depthAll]⟩
    | cons x xs ih2 =>
      intro h
      obtain ⟨a1, a2⟩ := (h x List.mem_cons_self).can
      obtain ⟨b1, b2⟩ := ih2 fun d hd => h d (List.mem_cons_of_mem _ hd)
      refine ⟨by simp [PyData.canLayAll0, a1, b1], ?_⟩
      simp only [PyData.depthAll]
      omega
  obtain ⟨a, b⟩ := key ds h
  have h3 : (PyData.list ds).depth ≤ 64 := by simp only [PyData.depth]; omega
  have h4 : (PyData.list ds).canLay0 = true := a
  unfold PySem.SeqAt.shaped
  rw [h4, decide_eq_true h3]
  rfl
section
variable {Δ : List Fd} {I : Ix} {n m : Nat} {B : Lent} {S : Sta} {cf : CallF} {ρ : Rho} {P Q : D → Prop}
theorem ne_list {ds : List D} {k : Nat} (h : ∀ d ∈ ds, Tm k d) (hk : k ≤ 60) : cmpE B .ne (.dat (.list ds)) (.dat (.list [])) = some (!ds.isEmpty) ∧ cmpE B .eq (.dat (.list ds)) (.dat (.list [])) = some ds.isEmpty := by
  have h1 := shapedL h hk
  have h2 : PySem.SeqAt.shaped (.list []) = true := by decide
  have e : eqE B (.dat (.list ds)) (.dat (.list [])) = some ds.isEmpty := by
    show (if (PySem.SeqAt.shaped (.list ds) && PySem.SeqAt.shaped (.list [])) = true then some (PyData.eqv (.list ds) (.list [])) else none) = _
    rw [h1, h2, if_pos (by rfl)]
    cases ds <;> rfl
  refine ⟨?_, e⟩
  show (eqE B _ _).map (!·) = _
  rw [e]
  rfl
/-- a comprehension whose turns leave the state -/
theorem lc_ex {i : Nat} {e : Ex} : ∀ (ds : List D), (∀ d ∈ ds, ∃ d', eE cf B e (ρ.set i (some (.dat d))) S = .ok (.dat d') S ∧ P d') → ∃ us, lcR cf B (.v i) [] e ρ ds S = .ok us S ∧ us.length = ds.length ∧ ∀ u ∈ us, P u
  | [], _ => ⟨[], rfl, rfl, fun _ h => by cases h⟩
  | d :: ds, h => by
    obtain ⟨us, h1, h2, h3⟩ := lc_ex (i := i) (e := e) ds fun x hx => h x (List.mem_cons_of_mem _ hx)
    obtain ⟨d', h4, h5⟩ := h d List.mem_cons_self
    refine ⟨d' :: us, ?_, by simp [h2], fun u hu => ?_⟩
    · rw [lcR_cons]
      simp only [bp_v, ev_cnil, ev_bok, if_true, h4, h1]
    · rcases List.mem_cons.mp hu with q | q
      · rw [q]; exact h5
      · exact h3 u q
/-- a comprehension that picks -/
theorem lc_flt {i : Nat} {c : Ex} : ∀ (ds : List D), i < ρ.length → (∀ d ∈ ds, ∃ k, eT cf B c (ρ.set i (some (.dat d))) S = .ok k S) → ∃ us, lcR cf B (.v i) [c] (.v i) ρ ds S = .ok us S ∧ us.length ≤ ds.length ∧ ∀ u ∈ us, u ∈ ds
  | [], _, _ => ⟨[], rfl, Nat.le_refl _, fun _ h => by cases h⟩
  | d :: ds, hi, h => by
    obtain ⟨us, h1, h2, h3⟩ := lc_flt (i := i) (c := c) ds hi fun x hx => h x (List.mem_cons_of_mem _ hx)
    obtain ⟨k, h4⟩ := h d List.mem_cons_self
    have h4' : eCs cf B [c] (ρ.set i (some (.dat d))) S = .ok k S := h4
    have h5 : eE cf B (.v i) (ρ.set i (some (.dat d))) S = .ok (.dat d) S := ev_v (List.getElem?_set_self hi)
    cases k with
    | false =>
      refine ⟨us, ?_, by simp; omega, fun u hu => List.mem_cons_of_mem _ (h3 u hu)⟩
      rw [lcR_cons]
      simp only [bp_v, h4', ev_bok, Bool.false_eq_true, if_false, h1]
    | true =>
      refine ⟨d :: us, ?_, by simp; omega, fun u hu => ?_⟩
      · rw [lcR_cons]
        simp only [bp_v, h4', ev_bok, if_true, h5, h1]
      · rcases List.mem_cons.mp hu with q | q
        · rw [q]; exact List.mem_cons_self
        · exact List.mem_cons_of_mem _ (h3 u q)
/-- a comprehension that draws -/
theorem lc_drw {i : Nat} {e : Ex} : ∀ (ds : List D) (S : Sta), StaOk S → (∀ d ∈ ds, ∀ S, StaOk S → ∃ d' S', eE cf B e (ρ.set i (some (.dat d))) S = .ok (.dat d') S' ∧ P d' ∧ StaOk S') → ∃ us S', lcR cf B (.v i) [] e ρ ds S = .ok us S' ∧ us.length = ds.length ∧ (∀ u ∈ us, P u) ∧ StaOk S'
  | [], S, hS, _ => ⟨[], S, rfl, rfl, (fun _ h => by cases h), hS⟩
  | d :: ds, S, hS, h => by
    obtain ⟨d', S1, h4, h5, hS1⟩ := h d List.mem_cons_self S hS
    obtain ⟨us, S2, h1, h2, h3, hS2⟩ := lc_drw (i := i) (e := e) ds S1 hS1 fun x hx => h x (List.mem_cons_of_mem _ hx)
    refine ⟨d' :: us, S2, ?_, by simp [h2], fun u hu => ?_, hS2⟩
    · rw [lcR_cons]
      simp only [bp_v, ev_cnil, ev_bok, if_true, h4, h1]
    · rcases List.mem_cons.mp hu with q | q
      · rw [q]; exact h5
      · exact h3 u q
mutual
def ni : D → Nat
  | .int _ => 1
  | .tuple ds => nis ds
  | _ => 0
def nis : List D → Nat
  | [] => 0
  | d :: ds => ni d + nis ds
end
def isI (d : D) : Prop := ∃ i : Int, d = .int i ∧ i.natAbs < 2 ^ 1000
theorem isI.tm {d : D} (h : isI d) : Tm 0 d := by
  obtain ⟨i, rfl, h⟩ := h
  exact .int h
theorem ints_run (h : Δ[I.law_ints]? = some (s_law_ints I)) : ∀ (n : Nat) (v : D), Tm n v → ni v ≤ 1000 → ∀ (m : Nat) (B : Lent) (S : Sta), n + 1 ≤ m → ∃ is, run Δ m I.law_ints [.dat v] B S = .ok (.list is) S ∧ is.length ≤ ni v ∧ ∀ x ∈ is, isI x
  | n, v, hv, hc, 0, B, S, hm => absurd hm (by omega)
  | n, v, hv, hc, m + 1, B, S, hm => by
    rw [run_at h rfl]
    cases hv with
    | non => exact ⟨[], rfl, Nat.zero_le _, fun _ h => by cases h⟩
    | bl b => exact ⟨[], rfl, Nat.zero_le _, fun _ h => by cases h⟩
    | str _ _ => exact ⟨[], rfl, Nat.zero_le _, fun _ h => by cases h⟩
    | @int _ i hi => exact ⟨[.int i], rfl, Nat.le_refl _, fun x hx => by rw [List.mem_singleton.mp hx]; exact ⟨i, rfl, hi⟩⟩
    | @tup n' ds hl hd =>
      have hcs : nis ds ≤ 1000 := hc
      have loop : ∀ (ps : List D), (∀ d ∈ ps, d ∈ ds) → ∀ (fs : List D) (o o3 : Option EV), (∀ x ∈ fs, isI x) → fs.length + nis ps ≤ 1000 → ∃ gs o' o3', forR (run Δ m) B (.v 2) [.set 1 (.bin .add (.v 1) (.lc [3] (.v 3) (.val (.call I.law_ints [(.v 2)])) [(.cmp .nin (.v 3) (.v 1))] (.v 3)))] ps [some (.dat (.tuple ds)), some (.dat (.list fs)), o, o3] S = .nx [some (.dat (.tuple ds)), some (.dat (.list gs)), o', o3'] S ∧ gs.length ≤ fs.length + nis ps ∧ ∀ x ∈ gs, isI x := by
        intro ps
        induction ps with
        | nil => exact fun _ fs o o3 hf hb => ⟨fs, o, o3, rfl, by simp [nis], hf⟩
        | cons p ps ih =>
          intro hin fs o o3 hf hb
          have hb' : fs.length + (ni p + nis ps) ≤ 1000 := hb
          obtain ⟨is, e1, l1, p1⟩ := ints_run h n' p (hd p (hin p List.mem_cons_self)) (by omega) m [] S (by omega)
          have test : ∀ d ∈ is, ∃ k, eT (run Δ m) B (.cmp .nin (.v 3) (.v 1)) ([some (.dat (.tuple ds)), some (.dat (.list fs)), some (.dat p), none].set 3 (some (.dat d))) S = .ok k S := fun d hd' => by
            obtain ⟨i, rfl, _⟩ := p1 d hd'
            have sh := shapedL (n := 0) (ds := fs) (fun d hd' => (hf d hd').tm) (by omega)
            refine ⟨!(fs.any fun z => PyData.eqv z (.int i)), ?_⟩
            have s1 : PySem.SeqAt.shaped (.int i) = true := rfl
            have e : cmpE B .nin (.dat (.int i)) (.dat (.list fs)) = some (!(fs.any fun z => PyData.eqv z (.int i))) := by
              show (if (PySem.SeqAt.shaped (.int i) && PySem.SeqAt.shaped (.list fs)) = true then some (fs.any fun z => PyData.eqv z (.int i)) else none).map (!·) = _
              rw [sh, s1]
              rfl
            unfold eT
            simp only [List.set_cons_succ, List.set_cons_zero, ev_cmp, ev_v0, ev_vs, ev_bok, e, Option.map_some, ev_ofs, vv_tb]
          obtain ⟨us, e2, l2, p2⟩ := lc_flt (cf := run Δ m) (B := B) (S := S) (i := 3) (c := .cmp .nin (.v 3) (.v 1)) (ρ := [some (.dat (.tuple ds)), some (.dat (.list fs)), some (.dat p), none]) is (by simp) test
          have hz : us.length ≤ 1000000 := by omega
          obtain ⟨gs, o', o3', e3, l3, p3⟩ := ih (fun d hd' => hin d (List.mem_cons_of_mem _ hd')) (fs ++ us) (some (.dat p)) o3 (fun x hx => by
            rcases List.mem_append.mp hx with q | q
            · exact hf x q
            · exact p1 x (p2 x q)) (by rw [List.length_append]; omega)
          refine ⟨gs, o', o3', ?_, by rw [List.length_append] at l3; show gs.length ≤ fs.length + (ni p + nis ps); omega, p3⟩
          have ad : binE B .add (.dat (.list fs)) (.dat (.list us)) = some (.dat (.list (fs ++ us))) := by
            show (if lenOk (fs.length + us.length) = true then _ else _) = _
            rw [if_pos (by rw [lenOk_eq]; simp; omega)]
          rw [forR_cons]
          simp only [bp_v, List.set_cons_succ, List.set_cons_zero, xv_cons, xv_nil, xv_set, ev_bin, ev_v0, ev_vs, ev_bok, ev_lc, ev_sval, ev_call, ev_cons, ev_nil, vv_pd, vv_p0, Option.map_some, ev_ofs, e1, stabL, Bool.not_false, Bool.true_or, if_true, srcItems, seqOf, lstOf, wipeR, e2, ev_str, lenOk_eq, hz, decide_true, ad, ev_ook, vv_ko, ev_snx, e3]
      obtain ⟨gs, o', o3', e, l, p⟩ := loop ds (fun _ h => h) [] none none (fun _ h => by cases h) (by simp; exact hcs)
      refine ⟨gs, ?_, by show gs.length ≤ nis ds; simpa using l, p⟩
      show (xSs (run Δ m) B (s_law_ints I).body [some (.dat (.tuple ds)), none, none, none] S).fin = _
      rw [s_law_ints, w_ifF (S' := S) rfl, w_ifF (S' := S) rfl, w_set (S' := S) (d := .list []) rfl]
      show (((forR (run Δ m) B (.v 2) _ ds [some (.dat (.tuple ds)), some (.dat (.list [])), none, none] S).seq fun ρ1 S1 => xSs (run Δ m) B [.ret (.v 1)] ρ1 S1)).fin = _
      rw [e]
      rfl
end
end Cw

namespace Cw
open PySem (PyData)
section
variable {Δ : List Fd} {I : Ix} {n m : Nat} {B : Lent} {S : Sta} {cf : CallF} {ρ : Rho} {P Q : D → Prop}
theorem exch_run (h : Δ[I.law_exchanged]? = some (s_law_exchanged I)) (a b : Int) : ∀ (n : Nat) (v : D), Tm n v → ∀ (m : Nat) (B : Lent) (S : Sta), n + 1 ≤ m → ∃ d, run Δ m I.law_exchanged [.dat v, .dat (.int a), .dat (.int b)] B S = .ok d S ∧ Ok n d
  | n, v, hv, 0, B, S, hm => absurd hm (by omega)
  | n, v, hv, m + 1, B, S, hm => by
    rw [run_at h rfl]
    cases hv with
    | non => exact ⟨.none, rfl, .non⟩
    | bl b => exact ⟨.bool b, rfl, .bl _⟩
    | str hx _ => exact ⟨_, rfl, .str hx⟩
    | @int _ i hi =>
      refine ⟨.int (if i = a then b else if i = b then a else i), ?_, .int _⟩
      show (xSs (run Δ m) B (s_law_exchanged I).body [some (.dat (.int i)), some (.dat (.int a)), some (.dat (.int b)), none] S).fin = _
      rw [s_law_exchanged, w_ifF (S' := S) rfl]
      refine at_app (w_ifT (t_isi (d := .int i) rfl rfl) ?_)
      by_cases e1 : i = a
      · simp [e1]
      · by_cases e2 : i = b
        · subst e2
          simp [e1]
        · simp [e1, e2]
    | @tup n' ds hl hd =>
      obtain ⟨us, e1, e2, e3⟩ := lc_ex (cf := run Δ m) (B := B) (S := S) (P := Ok n') (ρ := [some (.dat (.tuple ds)), some (.dat (.int a)), some (.dat (.int b)), none]) (i := 3) (e := .call I.law_exchanged [(.v 3), (.v 1), (.v 2)]) ds fun d hd' => by
        obtain ⟨d', q1, q2⟩ := exch_run h a b n' d (hd d hd') m [] S (by omega)
        refine ⟨d', ?_, q2⟩
        simp only [List.set_cons_succ, List.set_cons_zero, ev_call, ev_cons, ev_nil, ev_v0, ev_vs, ev_bok, vv_pd, vv_p0, Option.map_some, ev_ofs, q1]
      have hz : us.length ≤ 1000000 := by omega
      refine ⟨.tuple us, ?_, .tup hz e3⟩
      show (xSs (run Δ m) B (s_law_exchanged I).body [some (.dat (.tuple ds)), some (.dat (.int a)), some (.dat (.int b)), none] S).fin = _
      rw [s_law_exchanged, w_ifF (S' := S) rfl, w_ifF (S' := S) rfl]
      refine at_app (w_ret ?_)
      have bt : bltE B S .tuple [.dat (.list us)] = some (.dat (.tuple us)) := rfl
      simp only [ev_blt, ev_cons, ev_nil, ev_lc, ev_sval, ev_v0, ev_vs, ev_bok, stabL, Bool.not_false, Bool.true_or, if_true, srcItems, seqOf, ev_ofs, wipeR, List.set_cons_succ, List.set_cons_zero, e1, ev_str, lenOk_eq, hz, decide_true, bt]
/-- of numbers -/
theorem cut_run (hN : Δ[I.law_next]? = some (s_law_next I)) (h : Δ[I.law_cut]? = some (s_law_cut I)) : ∀ (n : Nat) (v : D), Nm n v → n ≤ 60 → ∀ (m : Nat) (B : Lent) (S : Sta), n + 2 ≤ m → StaOk S → Gv (run Δ m I.law_cut [.st, .dat v] B S) (fun d => Ok n d ∧ ((∃ ds, v = .tuple ds) → ∃ us, d = .tuple us ∧ us.length ≤ 2001 ∧ ∀ u ∈ us, Ok (n - 1) u))
  | n, v, hv, hn, 0, B, S, hm, hS => absurd hm (by omega)
  | n, v, hv, hn, 1, B, S, hm, hS => absurd hm (by omega)
  | n, v, hv, hn, m + 2, B, S, hm, hS => by
    rw [run_at h rfl]
    cases hv with
    | @int _ i hi => exact ⟨.int i, S, rfl, ⟨.int _, fun ⟨_, e⟩ => by cases e⟩, hS⟩
    | @tup n' ds hl hd =>
      have hvt : Tm (n' + 1) (.tuple ds) := (Nm.tup hl hd).tm
      obtain ⟨ne1, ne2⟩ := ne_nil (B := B) hvt hn
      show Gv ((xSs (run Δ (m + 1)) B (s_law_cut I).body [some .st, some (.dat (.tuple ds)), none, none, none, none] S).fin) _
      have t1 : tyAny (.dat (.tuple ds)) [.tuple] = some true := rfl
      have tn : ∀ (ρ : Rho) (S : Sta), eE (run Δ (m + 1)) B (.tup []) ρ S = .ok (.dat (.tuple [])) S := fun _ _ => rfl
      have hc1 : eT (run Δ (m + 1)) B (.ors [(.not (.isi (.v 1) [.tuple] true)), (.cmp .eq (.v 1) (.tup []))]) [some .st, some (.dat (.tuple ds)), none, none, none, none] S = .ok ds.isEmpty S := by
        unfold eT
        simp only [ev_ors, ev_ors1, ev_not, ev_isi, ev_v0, ev_vs, ev_bok, t1, Option.map_some, ev_ofs, vv_tb, Bool.not_true, Bool.false_eq_true, if_false, ev_cmp, tn, ne2]
      cases ds with
      | nil => exact ⟨.tuple [], S, at_app (w_ifT hc1 rfl), ⟨.tup (by simp) (fun _ h => by cases h), fun _ => ⟨[], rfl, by simp, fun _ h => by cases h⟩⟩, hS⟩
      | cons x xs =>
        obtain ⟨k, S2, e2, hk, hS2⟩ := draw (Δ := Δ) (I := I) (m := m) (B := B) (ρ := [some .st, some (.dat (.tuple (x :: xs))), none, none, none, none]) (x := .blt .len [.v 1]) (l := (x :: xs).length) hN hS rfl ⟨_, fun S => by simp only [ev_blt, ev_cons, ev_nil, ev_v0, ev_vs, ev_bok, vv_len, ev_ofs], rfl⟩ (by simp) (by omega)
        have test : ∀ d ∈ x :: xs, ∃ k, eT (run Δ (m + 1)) B (.not (.isi (.v 5) [.str] true)) ([some .st, some (.dat (.tuple (x :: xs))), none, none, none, none].set 5 (some (.dat d))) S = .ok k S := fun d hd' => by
          refine ⟨true, ?_⟩
          have ty : tyAny (.dat d) [.str] = some false := by
            cases hd d hd' <;> rfl
          unfold eT
          simp only [List.set_cons_succ, List.set_cons_zero, ev_not, ev_isi, ev_v0, ev_vs, ev_bok, ty, Option.map_some, ev_ofs, vv_tb, Bool.not_false]
        -- no item is a text: all are picked
        have all : lcR (run Δ (m + 1)) B (.v 5) [.not (.isi (.v 5) [.str] true)] (.v 5) [some .st, some (.dat (.tuple (x :: xs))), none, none, none, none] (x :: xs) S = .ok (x :: xs) S := by
          have key : ∀ ys : List D, (∀ d ∈ ys, Nm n' d) → lcR (run Δ (m + 1)) B (.v 5) [.not (.isi (.v 5) [.str] true)] (.v 5) [some .st, some (.dat (.tuple (x :: xs))), none, none, none, none] ys S = .ok ys S := by
            intro ys
            induction ys with
            | nil => exact fun _ => rfl
            | cons y ys ih =>
              intro hy
              have ty : tyAny (.dat y) [.str] = some false := by
                cases hy y List.mem_cons_self <;> rfl
              rw [lcR_cons]
              simp only [bp_v, List.set_cons_succ, List.set_cons_zero, ev_cone, ev_not, ev_isi, ev_v0, ev_vs, ev_bok, ty, Option.map_some, ev_ofs, vv_tb, Bool.not_false, if_true, ih fun d hd' => hy d (List.mem_cons_of_mem _ hd')]
          exact key _ hd
        have hz : (x :: xs).length ≤ 1000000 := by omega
        obtain ⟨nl1, _⟩ := ne_list (B := B) (ds := x :: xs) (k := n') (fun d hd' => (hd d hd').tm) (by omega)
        have hc2 : eT (run Δ (m + 1)) B (.cmp .ne (.lc [5] (.v 5) (.val (.v 1)) [(.not (.isi (.v 5) [.str] true))] (.v 5)) (.lst [])) [some .st, some (.dat (.tuple (x :: xs))), none, none, none, none] S = .ok true S := by
          have tl : ∀ (ρ : Rho) (S : Sta), eE (run Δ (m + 1)) B (.lst []) ρ S = .ok (.dat (.list [])) S := fun _ _ => rfl
          unfold eT
          simp only [ev_cmp, ev_lc, ev_sval, ev_v0, ev_vs, ev_bok, stabL, Bool.not_false, Bool.true_or, if_true, srcItems, seqOf, ev_ofs, wipeR, List.set_cons_succ, List.set_cons_zero, all, ev_str, lenOk_eq, hz, decide_true, tl, nl1, Option.map_some, List.isEmpty_cons, vv_tb]
        have hget : (x :: xs)[k]? = some (x :: xs)[k] := List.getElem?_eq_getElem hk
        obtain ⟨d, S3, e3, ⟨p3, _⟩, hS3⟩ := cut_run hN h n' _ (hd _ (List.getElem_mem hk)) (by omega) (m + 1) [] S2 (by omega) hS2
        have ecall : eE (run Δ (m + 1)) B (.call I.law_cut [.v 0, .sub (.v 1) (.v 2)]) [some .st, some (.dat (.tuple (x :: xs))), some (.dat (.int k)), none, none, none] S2 = .ok (.dat d) S3 := by
          simp only [ev_call, ev_cons, ev_nil, ev_v0, ev_vs, ev_bok, ev_sub, vv_sub_t, at_nat hget, Option.map_some, ev_ofs, vv_ps, vv_pd, vv_p0, e3]
        have hv : DE (run Δ (m + 1)) B [some .st, some (.dat (.tuple (x :: xs))), some (.dat (.int k)), none, none, none] (.v 1) (TP 1000 (Ok n')) := .v rfl ⟨_, rfl, hl, fun d hd' => (hd d hd').tm.ok⟩
        have hk' : DE (run Δ (m + 1)) B [some .st, some (.dat (.tuple (x :: xs))), some (.dat (.int k)), none, none, none] (.v 2) IP := .v rfl ⟨_, rfl⟩
        obtain ⟨us, e4, l4, p4⟩ := splice (.slcH cutsT hv hk') ecall p3 (.slcL cutsT hv (.addI hk' (.con ⟨1, rfl⟩))) (by omega)
        refine ⟨.tuple us, S3, at_app ?_, ⟨.tup (by omega) p4, fun _ => ⟨us, rfl, by omega, p4⟩⟩, hS3⟩
        rw [s_law_cut, w_ifF hc1]
        refine w_ifB hc2 ?_ srt
        rw [w_set e2]
        exact w_ret e4
end
end Cw

namespace Cw
open PySem (PyData)
/-- a word and numbers behind it -/
structure Tld (n : Nat) (v : D) : Prop where
  ex : ∃ (w : Tx) (r : List D), v = .tuple (.str w :: r) ∧ sOk w ∧ w.length ≤ 1000 ∧ r.length ≤ 900 ∧ (∀ d ∈ r, Nm n d) ∧ nis r ≤ 1000
section
variable {Δ : List Fd} {I : Ix} {n m : Nat} {B : Lent} {S S1 S2 : Sta} {cf : CallF} {ρ : Rho} {P Q : D → Prop} {a b : Ex} {d d' : D} {r : List Sm}
theorem w_par {i j : Nat} (ha : eE cf B a ρ S = .ok (.dat d) S1) (hb : eE cf B b ρ S1 = .ok (.dat d') S2) : xSs cf B (.par2 i j a b :: r) ρ S = xSs cf B r ((ρ.set i (some (.dat d))).set j (some (.dat d'))) S2 := by
  simp only [xv_cons, xv_par2, ha, hb, ev_ook, vv_do, Option.bind_some, Option.map_some, ev_ofs, ev_snx]
theorem cut_tail {x : D} {xs : List D} : cutL (x :: xs) (some 1) none = xs := by
  unfold cutL
  have h1 : HT.sIx (x :: xs).length 0 (some 1) = 1 := by
    have := HT.sIx_nat (x :: xs).length 0 1
    simp at this ⊢
    exact this
  rw [h1, HT.sIx_none]
  simp
theorem turned_run (hN : Δ[I.law_next]? = some (s_law_next I)) (hI : Δ[I.law_ints]? = some (s_law_ints I)) (hX : Δ[I.law_exchanged]? = some (s_law_exchanged I)) (hC : Δ[I.law_cut]? = some (s_law_cut I)) (h : Δ[I.law_turned_about]? = some (s_law_turned_about I)) {v : D} (hv : Tld n v) (hn : n ≤ 50) {m : Nat} (hm : n + 6 ≤ m) (hS : StaOk S) :
    Gv (run Δ m I.law_turned_about [.st, .dat v] B S) (Ok (n + 3)) := by
  obtain ⟨w, r, rfl, hw, hwl, hrl, hr, hc⟩ := hv.ex
  obtain ⟨m, rfl⟩ : ∃ k, m = k + 2 := ⟨m - 2, by omega⟩
  rw [run_at h rfl]
  show Gv ((xSs (run Δ (m + 1)) B (s_law_turned_about I).body [some .st, some (.dat (.tuple (.str w :: r))), none, none, none, none, none, none, none] S).fin) _
  have tmT : Tm (n + 1) (.tuple (.str w :: r)) := .tup (by simp; omega) fun d hd => by
    rcases List.mem_cons.mp hd with q | q
    · rw [q]; exact .str hw hwl
    · exact (hr d q).tm
  have okT : Ok (n + 1) (.tuple (.str w :: r)) := tmT.ok
  obtain ⟨is, e1, l1, p1⟩ := ints_run hI (n + 1) _ tmT (by show 0 + nis r ≤ 1000; omega) (m + 1) [] S (by omega)
  have l1' : is.length ≤ 1000 := Nat.le_trans l1 (by show 0 + nis r ≤ 1000; omega)
  have a1 : eE (run Δ (m + 1)) B (.call I.law_ints [.v 1]) [some .st, some (.dat (.tuple (.str w :: r))), none, none, none, none, none, none, none] S = .ok (.dat (.list is)) S := by
    simp only [ev_call, ev_cons, ev_nil, ev_v0, ev_vs, ev_bok, vv_pd, vv_p0, Option.map_some, ev_ofs, e1]
  obtain ⟨pk, S1, a2, hpk, hS1⟩ := draw (Δ := Δ) (I := I) (m := m) (B := B) (ρ := [some .st, some (.dat (.tuple (.str w :: r))), some (.dat (.list is)), none, none, none, none, none, none]) (x := .c (.int 5)) (l := 5) hN hS rfl ⟨_, fun _ => rfl, rfl⟩ (by decide) (by decide)
  rw [s_law_turned_about, w_set a1, List.set_cons_succ, List.set_cons_succ, List.set_cons_zero, w_set a2, List.set_cons_succ, List.set_cons_succ, List.set_cons_succ, List.set_cons_zero]
  have lenv : ∀ ρ : Rho, ρ[1]? = some (some (.dat (.tuple (.str w :: r)))) → DE (run Δ (m + 1)) B ρ (.blt .len [.v 1]) (fun d => d = .int ((r.length + 1 : Nat) : Nat)) := fun ρ hρ => ⟨_, fun S => by simp only [ev_blt, ev_cons, ev_nil, ev_v hρ, ev_bok, vv_len, ev_ofs, List.length_cons], rfl⟩
  have hvv : ∀ ρ : Rho, ρ[1]? = some (some (.dat (.tuple (.str w :: r)))) → DE (run Δ (m + 1)) B ρ (.v 1) (TP 901 (Ok n)) := fun ρ hρ => .v hρ ⟨_, rfl, by simp; omega, fun d hd => by
    rcases List.mem_cons.mp hd with q | q
    · rw [q]; exact .str hw
    · exact (hr d q).tm.ok⟩
  have ct : Cuts B (TP 901 (Ok n)) := cutsT
  -- the choice of two ints
  have nl := (ne_list (B := B) (ds := is) (k := 0) (fun d hd => (p1 d hd).tm) (by omega)).1
  have hc1 : eT (run Δ (m + 1)) B (.ands [(.cmp .lt (.v 3) (.c (.int 3))), (.cmp .ne (.v 2) (.lst []))]) [some .st, some (.dat (.tuple (.str w :: r))), some (.dat (.list is)), some (.dat (.int pk)), none, none, none, none, none] S1 = .ok (decide ((pk : Int) < 3) && !is.isEmpty) S1 := by
    have tl : ∀ (ρ : Rho) (S : Sta), eE (run Δ (m + 1)) B (.lst []) ρ S = .ok (.dat (.list [])) S := fun _ _ => rfl
    unfold eT
    cases hz : decide ((pk : Int) < 3) with
    | false => simp only [ev_ands, ev_ands1, ev_cmp, ev_v0, ev_vs, ev_bok, ev_c, vv_lt, hz, Option.map_some, ev_ofs, vv_tb, Bool.false_eq_true, if_false, Bool.false_and]
    | true => simp only [ev_ands, ev_ands1, ev_cmp, ev_v0, ev_vs, ev_bok, ev_c, vv_lt, hz, Option.map_some, ev_ofs, vv_tb, if_true, tl, nl, Bool.true_and]
  cases hz1 : (decide ((pk : Int) < 3) && !is.isEmpty) with
  | true =>
    rw [hz1] at hc1
    have hne : 0 < is.length := by
      cases is with
      | nil => simp at hz1
      | cons _ _ => simp
    obtain ⟨_, S2, a3, ⟨one, rfl, _⟩, hS2⟩ := pickv (Δ := Δ) (I := I) (P := isI) (m := m) (B := B) (ρ := [some .st, some (.dat (.tuple (.str w :: r))), some (.dat (.list is)), some (.dat (.int pk)), none, none, none, none, none]) (i := 2) (ds := is) hN hS1 rfl rfl p1 hne (by omega)
    obtain ⟨_, S3, a4, ⟨oth, rfl, _⟩, hS3⟩ := pickv (Δ := Δ) (I := I) (P := isI) (m := m) (B := B) (ρ := [some .st, some (.dat (.tuple (.str w :: r))), some (.dat (.list is)), some (.dat (.int pk)), some (.dat (.int one)), none, none, none, none]) (i := 2) (ds := is) hN hS2 rfl rfl p1 hne (by omega)
    have a5 : ∃ (o : Int) (S4 : Sta), eE (run Δ (m + 1)) B (.ite (.cmp .eq (.v 3) (.c (.int 0))) (.bin .add (.v 4) (.c (.int 1))) (.sub (.v 2) (.call I.law_next [(.v 0), (.blt .len [(.v 2)])]))) [some .st, some (.dat (.tuple (.str w :: r))), some (.dat (.list is)), some (.dat (.int pk)), some (.dat (.int one)), none, none, none, none] S2 = .ok (.dat (.int o)) S4 ∧ StaOk S4 := by
      cases hq : ((pk : Int) == 0) with
      | true => exact ⟨one + 1, S2, by simp only [ev_ite, ev_cmp, ev_v0, ev_vs, ev_bok, ev_c, vv_eqi, hq, Option.map_some, ev_ofs, vv_tb, if_true, ev_bin, vv_add], hS2⟩
      | false => exact ⟨oth, S3, by simp only [ev_ite, ev_cmp, ev_v0, ev_vs, ev_bok, ev_c, vv_eqi, hq, Option.map_some, ev_ofs, vv_tb, Bool.false_eq_true, if_false, a4], hS3⟩
    obtain ⟨o, S4, a5, hS4⟩ := a5
    obtain ⟨d, a6, p6⟩ := exch_run hX one o (n + 1) _ tmT (m + 1) [] S4 (by omega)
    refine ⟨d, S4, at_app (w_ifB hc1 ?_ srt), p6.mono (by omega), hS4⟩
    rw [w_set a3, List.set_cons_succ, List.set_cons_succ, List.set_cons_succ, List.set_cons_succ, List.set_cons_zero, w_set a5]
    refine w_ret ?_
    simp only [List.set_cons_succ, List.set_cons_zero, ev_call, ev_cons, ev_nil, ev_v0, ev_vs, ev_bok, vv_pd, vv_p0, Option.map_some, ev_ofs, a6]
  | false =>
    rw [hz1] at hc1
    rw [w_ifF hc1]
    have hc2 : eT (run Δ (m + 1)) B (.cmp .eq (.v 3) (.c (.int 3))) [some .st, some (.dat (.tuple (.str w :: r))), some (.dat (.list is)), some (.dat (.int pk)), none, none, none, none, none] S1 = .ok ((pk : Int) == 3) S1 := by
      unfold eT
      simp only [ev_cmp, ev_v0, ev_vs, ev_bok, ev_c, vv_eqi, Option.map_some, ev_ofs, vv_tb]
    obtain ⟨_, b1, hs1, rfl, b2, b3⟩ := DE.slcH ct (hvv [some .st, some (.dat (.tuple (.str w :: r))), some (.dat (.list is)), some (.dat (.int pk)), none, none, none, none, none] rfl) (DE.con (d := .int 1) ⟨_, rfl⟩)
    have tl1 : ∀ (ρ : Rho) (S : Sta), ρ[1]? = some (some (.dat (.tuple (.str w :: r)))) → eE (run Δ (m + 1)) B (.slcL (.v 1) (.c (.int 1))) ρ S = .ok (.dat (.tuple r)) S := fun ρ S hρ => by
      have e : slcE B (.dat (.tuple (.str w :: r))) (some 1) none = some (.dat (.tuple (cutL (.str w :: r) (some 1) none))) := rfl
      rw [cut_tail] at e
      simp only [ev_slcL, ev_v hρ, ev_bok, ev_c, vv_io, Option.bind_some, e, ev_ofs]
    cases hz2 : ((pk : Int) == 3) with
    | true =>
      rw [hz2] at hc2
      -- the second part, cut
      have a7 : ∃ (us : List D) (S4 : Sta), eE (run Δ (m + 1)) B (.ite (.cmp .gt (.blt .len [(.v 1)]) (.c (.int 2))) (.call I.law_cut [(.v 0), (.slcL (.v 1) (.c (.int 1)))]) (.blt .tuple [(.lc [8] (.v 8) (.val (.slcL (.v 1) (.c (.int 1)))) [] (.call I.law_cut [(.v 0), (.v 8)]))])) [some .st, some (.dat (.tuple (.str w :: r))), some (.dat (.list is)), some (.dat (.int pk)), none, none, none, none, none] S1 = .ok (.dat (.tuple us)) S4 ∧ us.length ≤ 2001 ∧ (∀ u ∈ us, Ok (n + 1) u) ∧ StaOk S4 := by
        obtain ⟨_, b4, rfl⟩ := lenv [some .st, some (.dat (.tuple (.str w :: r))), some (.dat (.list is)), some (.dat (.int pk)), none, none, none, none, none] rfl
        cases hq : decide ((2 : Int) < ((r.length + 1 : Nat) : Int)) with
        | true =>
          obtain ⟨d, S4, b5, ⟨_, b6⟩, hS4⟩ := cut_run hN hC (n + 1) (.tuple r) (.tup (by omega) hr) (by omega) (m + 1) [] S1 (by omega) hS1
          obtain ⟨us, rfl, b7, b8⟩ := b6 ⟨r, rfl⟩
          refine ⟨us, S4, ?_, b7, fun u hu => (b8 u hu).mono (by omega), hS4⟩
          have tl2 := tl1 [some .st, some (.dat (.tuple (.str w :: r))), some (.dat (.list is)), some (.dat (.int pk)), none, none, none, none, none] S1 rfl
          simp only [ev_ite, ev_cmp, b4, ev_bok, ev_c, vv_gt, hq, Option.map_some, ev_ofs, vv_tb, if_true, ev_call, ev_cons, ev_nil, ev_v0, tl2, vv_ps, vv_pd, vv_p0, b5]
        | false =>
          obtain ⟨us, S4, b5, b6, b7, hS4⟩ := lc_drw (cf := run Δ (m + 1)) (B := B) (P := Ok (n + 1)) (ρ := [some .st, some (.dat (.tuple (.str w :: r))), some (.dat (.list is)), some (.dat (.int pk)), none, none, none, none, none]) (i := 8) (e := .call I.law_cut [(.v 0), (.v 8)]) r S1 hS1 fun d hd S hS => by
            obtain ⟨d', S', q1, ⟨q2, _⟩, q3⟩ := cut_run hN hC n d (hr d hd) (by omega) (m + 1) [] S (by omega) hS
            refine ⟨d', S', ?_, q2.mono (by omega), q3⟩
            simp only [List.set_cons_succ, List.set_cons_zero, ev_call, ev_cons, ev_nil, ev_v0, ev_vs, ev_bok, vv_ps, vv_pd, vv_p0, Option.map_some, ev_ofs, q1]
          have hz : us.length ≤ 1000000 := by omega
          have bt : ∀ S, bltE B S .tuple [.dat (.list us)] = some (.dat (.tuple us)) := fun _ => rfl
          have tl2 := tl1 [some .st, some (.dat (.tuple (.str w :: r))), some (.dat (.list is)), some (.dat (.int pk)), none, none, none, none, none] S1 rfl
          refine ⟨us, S4, ?_, by omega, b7, hS4⟩
          simp only [ev_ite, ev_cmp, b4, ev_bok, ev_c, vv_gt, hq, Option.map_some, ev_ofs, vv_tb, Bool.false_eq_true, if_false, ev_blt, ev_cons, ev_nil, ev_lc, ev_sval, tl2, stabL, Bool.not_false, Bool.true_or, if_true, srcItems, seqOf, wipeR, List.set_cons_succ, List.set_cons_zero, b5, ev_str, lenOk_eq, hz, decide_true, bt]
      obtain ⟨us, S4, a7, l7, p7, hS4⟩ := a7
      refine ⟨.tuple (hs1 ++ us), S4, at_app (w_ifT hc2 ?_), ?_, hS4⟩
      · have ad : binE B .add (.dat (.tuple hs1)) (.dat (.tuple us)) = some (.dat (.tuple (hs1 ++ us))) := by
          show (if lenOk (hs1.length + us.length) = true then _ else _) = _
          rw [if_pos (by rw [lenOk_eq]; simp; omega)]
        simp only [ev_bin, b1, ev_bok, a7, ad, ev_ofs]
      · refine Ok.tup (n := n + 2) (by rw [List.length_append]; omega) fun u hu => ?_
        rcases List.mem_append.mp hu with q | q
        · exact (b3 u q).mono (by omega)
        · exact (p7 u q).mono (by omega)
    | false =>
      rw [hz2] at hc2
      rw [w_ifF hc2]
      obtain ⟨k, S2, c1, hk, hS2⟩ := draw (Δ := Δ) (I := I) (m := m) (B := B) (ρ := [some .st, some (.dat (.tuple (.str w :: r))), some (.dat (.list is)), some (.dat (.int pk)), none, none, none, none, none]) hN hS1 rfl (lenv _ rfl) (by omega) (by omega)
      obtain ⟨j, S3, c2, hj, hS3⟩ := draw (Δ := Δ) (I := I) (m := m) (B := B) (ρ := [some .st, some (.dat (.tuple (.str w :: r))), some (.dat (.list is)), some (.dat (.int pk)), none, none, none, none, none]) hN hS2 rfl (lenv _ rfl) (by omega) (by omega)
      rw [w_par c1 c2]
      have last : ∀ (k j : Nat) (S : Sta), StaOk S → Gv ((xSs (run Δ (m + 1)) B [.ret (.ite (.ands [(.cmp .gt (.v 6) (.c (.int 0))), (.cmp .gt (.v 7) (.c (.int 0)))]) (.bin .add (.bin .add (.slcH (.v 1) (.v 6)) (.slcB (.v 1) (.v 7) (.bin .add (.v 7) (.c (.int 1))))) (.slcL (.v 1) (.bin .add (.v 6) (.c (.int 1))))) (.v 1))] [some .st, some (.dat (.tuple (.str w :: r))), some (.dat (.list is)), some (.dat (.int pk)), none, none, some (.dat (.int k)), some (.dat (.int j)), none] S).fin) (Ok (n + 3)) := fun k j S hS => by
        have v1 := hvv [some .st, some (.dat (.tuple (.str w :: r))), some (.dat (.list is)), some (.dat (.int pk)), none, none, some (.dat (.int k)), some (.dat (.int j)), none] rfl
        have v6 : DE (run Δ (m + 1)) B [some .st, some (.dat (.tuple (.str w :: r))), some (.dat (.list is)), some (.dat (.int pk)), none, none, some (.dat (.int k)), some (.dat (.int j)), none] (.v 6) IP := .v rfl ⟨_, rfl⟩
        have v7 : DE (run Δ (m + 1)) B [some .st, some (.dat (.tuple (.str w :: r))), some (.dat (.list is)), some (.dat (.int pk)), none, none, some (.dat (.int k)), some (.dat (.int j)), none] (.v 7) IP := .v rfl ⟨_, rfl⟩
        obtain ⟨_, q1, us, rfl, q2, q3⟩ := DE.addT (.addT (.slcH ct v1 v6) (.slcB ct v1 v7 (.addI v7 (.con ⟨1, rfl⟩))) (by omega)) (.slcL ct v1 (.addI v6 (.con ⟨1, rfl⟩))) (by omega)
        have cnd : ∀ b : Bool, (decide ((0 : Int) < k) && decide ((0 : Int) < j)) = b → (eE (run Δ (m + 1)) B (.ands [(.cmp .gt (.v 6) (.c (.int 0))), (.cmp .gt (.v 7) (.c (.int 0)))]) [some .st, some (.dat (.tuple (.str w :: r))), some (.dat (.list is)), some (.dat (.int pk)), none, none, some (.dat (.int k)), some (.dat (.int j)), none] S) = .ok (.dat (.bool b)) S := fun b hb => by
          cases hk0 : decide ((0 : Int) < k) with
          | false =>
            rw [hk0] at hb
            simp only [ev_ands, ev_ands1, ev_cmp, ev_v0, ev_vs, ev_bok, ev_c, vv_gt, hk0, Option.map_some, ev_ofs, vv_tb, Bool.false_eq_true, if_false]
            rw [← hb]
            rfl
          | true =>
            rw [hk0, Bool.true_and] at hb
            simp only [ev_ands, ev_ands1, ev_cmp, ev_v0, ev_vs, ev_bok, ev_c, vv_gt, hk0, Option.map_some, ev_ofs, vv_tb, if_true, hb]
        cases hz : (decide ((0 : Int) < k) && decide ((0 : Int) < j)) with
        | true =>
          refine ⟨.tuple us, S, at_app (w_ret ?_), (Ok.tup (n := n) (by omega) q3).mono (by omega), hS⟩
          rw [ev_ite, cnd _ hz]
          simp only [ev_bok, vv_tb, ev_ofs, if_true, q1]
        | false =>
          refine ⟨_, S, at_app (w_ret (d := .tuple (.str w :: r)) ?_), okT.mono (by omega), hS⟩
          rw [ev_ite, cnd _ hz]
          simp only [ev_bok, vv_tb, ev_ofs, Bool.false_eq_true, if_false, ev_v0, ev_vs]
      show Gv ((xSs (run Δ (m + 1)) B (.ite (.ands [(.cmp .eq (.blt .len [(.v 1)]) (.c (.int 2))), (.isi (.sub (.v 1) (.c (.int 1))) [.tuple] true), (.cmp .ne (.sub (.v 1) (.c (.int 1))) (.tup []))]) [.par2 6 7 (.call I.law_next [(.v 0), (.blt .len [(.sub (.v 1) (.c (.int 1)))])]) (.call I.law_next [(.v 0), (.blt .len [(.sub (.v 1) (.c (.int 1)))])]), .ret (.tup [(.sub (.v 1) (.c (.int 0))), (.bin .add (.bin .add (.slcH (.sub (.v 1) (.c (.int 1))) (.v 6)) (.slcB (.sub (.v 1) (.c (.int 1))) (.v 7) (.bin .add (.v 7) (.c (.int 1))))) (.slcL (.sub (.v 1) (.c (.int 1))) (.bin .add (.v 6) (.c (.int 1)))))])] [] :: _) [some .st, some (.dat (.tuple (.str w :: r))), some (.dat (.list is)), some (.dat (.int pk)), none, none, some (.dat (.int k)), some (.dat (.int j)), none] S3).fin) _
      cases hl2 : (((r.length + 1 : Nat) : Int) == 2) with
      | false =>
        have hc3 : eT (run Δ (m + 1)) B (.ands [(.cmp .eq (.blt .len [(.v 1)]) (.c (.int 2))), (.isi (.sub (.v 1) (.c (.int 1))) [.tuple] true), (.cmp .ne (.sub (.v 1) (.c (.int 1))) (.tup []))]) [some .st, some (.dat (.tuple (.str w :: r))), some (.dat (.list is)), some (.dat (.int pk)), none, none, some (.dat (.int k)), some (.dat (.int j)), none] S3 = .ok false S3 := by
          unfold eT
          simp only [ev_ands, ev_ands1, ev_cmp, ev_blt, ev_cons, ev_nil, ev_v0, ev_vs, ev_bok, vv_len, List.length_cons, ev_c, vv_eqi, hl2, Option.map_some, ev_ofs, vv_tb, Bool.false_eq_true, if_false]
        rw [w_ifF hc3]
        exact last k j S3 hS3
      | true =>
        have hr1 : r.length = 1 := by
          have := eq_of_beq hl2
          omega
        obtain ⟨y, rfl⟩ : ∃ y, r = [y] := by
          match r, hr1 with
          | [y], _ => exact ⟨y, rfl⟩
        have hy := hr y List.mem_cons_self
        have len2 : ((([y] : List D).length + 1 : Nat) : Int) = 2 := rfl
        cases hy with
        | @int _ i hi =>
          have hc3 : eT (run Δ (m + 1)) B (.ands [(.cmp .eq (.blt .len [(.v 1)]) (.c (.int 2))), (.isi (.sub (.v 1) (.c (.int 1))) [.tuple] true), (.cmp .ne (.sub (.v 1) (.c (.int 1))) (.tup []))]) [some .st, some (.dat (.tuple (.str w :: [.int i]))), some (.dat (.list is)), some (.dat (.int pk)), none, none, some (.dat (.int k)), some (.dat (.int j)), none] S3 = .ok false S3 := by
            have t1 : tyAny (.dat (.int i)) [.tuple] = some false := rfl
            have hlen : ((((PyData.str w :: [PyData.int i]).length : Nat) : Int) == 2) = true := rfl
            unfold eT
            simp only [ev_ands, ev_ands1, ev_cmp, ev_blt, ev_cons, ev_nil, ev_v0, ev_vs, ev_bok, vv_len, ev_c, vv_eqi, hlen, Option.map_some, ev_ofs, vv_tb, if_true, ev_isi, ev_sub, vv_sub1, t1, Bool.false_eq_true, if_false]
          rw [w_ifF hc3]
          exact last k j S3 hS3
        | @tup n' ys hyl hyd =>
          have tmy : Tm (n' + 1) (.tuple ys) := (Nm.tup hyl hyd).tm
          obtain ⟨ny1, _⟩ := ne_nil (B := B) tmy (by omega)
          have hc3 : eT (run Δ (m + 1)) B (.ands [(.cmp .eq (.blt .len [(.v 1)]) (.c (.int 2))), (.isi (.sub (.v 1) (.c (.int 1))) [.tuple] true), (.cmp .ne (.sub (.v 1) (.c (.int 1))) (.tup []))]) [some .st, some (.dat (.tuple (.str w :: [.tuple ys]))), some (.dat (.list is)), some (.dat (.int pk)), none, none, some (.dat (.int k)), some (.dat (.int j)), none] S3 = .ok (!ys.isEmpty) S3 := by
            have t1 : tyAny (.dat (.tuple ys)) [.tuple] = some true := rfl
            have tn : ∀ (ρ : Rho) (S : Sta), eE (run Δ (m + 1)) B (.tup []) ρ S = .ok (.dat (.tuple [])) S := fun _ _ => rfl
            have hlen : ((((PyData.str w :: [PyData.tuple ys]).length : Nat) : Int) == 2) = true := rfl
            unfold eT
            simp only [ev_ands, ev_ands1, ev_cmp, ev_blt, ev_cons, ev_nil, ev_v0, ev_vs, ev_bok, vv_len, ev_c, vv_eqi, hlen, Option.map_some, ev_ofs, vv_tb, if_true, ev_isi, ev_sub, vv_sub1, t1, tn, ny1]
          cases hye : ys.isEmpty with
          | true =>
            rw [hye] at hc3
            rw [w_ifF hc3]
            exact last k j S3 hS3
          | false =>
            rw [hye] at hc3
            have hpos : 0 < ys.length := by
              cases ys with
              | nil => cases hye
              | cons _ _ => simp
            have leny : ∀ ρ : Rho, ρ[1]? = some (some (.dat (.tuple (.str w :: [.tuple ys])))) → DE (run Δ (m + 1)) B ρ (.blt .len [(.sub (.v 1) (.c (.int 1)))]) (fun d => d = .int (ys.length : Nat)) := fun ρ hρ => ⟨_, fun S => by simp only [ev_blt, ev_cons, ev_nil, ev_sub, ev_v hρ, ev_bok, ev_c, vv_sub1, ev_ofs, vv_len], rfl⟩
            obtain ⟨k2, S4, c3, hk2, hS4⟩ := draw (Δ := Δ) (I := I) (m := m) (B := B) (ρ := [some .st, some (.dat (.tuple (.str w :: [.tuple ys]))), some (.dat (.list is)), some (.dat (.int pk)), none, none, some (.dat (.int k)), some (.dat (.int j)), none]) hN hS3 rfl (leny _ rfl) hpos (by omega)
            obtain ⟨j2, S5, c4, hj2, hS5⟩ := draw (Δ := Δ) (I := I) (m := m) (B := B) (ρ := [some .st, some (.dat (.tuple (.str w :: [.tuple ys]))), some (.dat (.list is)), some (.dat (.int pk)), none, none, some (.dat (.int k)), some (.dat (.int j)), none]) hN hS4 rfl (leny _ rfl) hpos (by omega)
            have ct' : Cuts B (TP 1000 (Ok n')) := cutsT
            have vy : DE (run Δ (m + 1)) B [some .st, some (.dat (.tuple (.str w :: [.tuple ys]))), some (.dat (.list is)), some (.dat (.int pk)), none, none, some (.dat (.int k2)), some (.dat (.int j2)), none] (.sub (.v 1) (.c (.int 1))) (TP 1000 (Ok n')) := ⟨.tuple ys, fun S => by simp only [ev_sub, ev_v0, ev_vs, ev_bok, ev_c, vv_sub1, ev_ofs], _, rfl, hyl, fun d hd => (hyd d hd).tm.ok⟩
            have v6 : DE (run Δ (m + 1)) B [some .st, some (.dat (.tuple (.str w :: [.tuple ys]))), some (.dat (.list is)), some (.dat (.int pk)), none, none, some (.dat (.int k2)), some (.dat (.int j2)), none] (.v 6) IP := .v rfl ⟨_, rfl⟩
            have v7 : DE (run Δ (m + 1)) B [some .st, some (.dat (.tuple (.str w :: [.tuple ys]))), some (.dat (.list is)), some (.dat (.int pk)), none, none, some (.dat (.int k2)), some (.dat (.int j2)), none] (.v 7) IP := .v rfl ⟨_, rfl⟩
            have q := DE.addT (.addT (.slcH ct' vy v6) (.slcB ct' vy v7 (.addI v7 (.con ⟨1, rfl⟩))) (by omega)) (.slcL ct' vy (.addI v6 (.con ⟨1, rfl⟩))) (by omega)
            have q0 : DE (run Δ (m + 1)) B [some .st, some (.dat (.tuple (.str w :: [.tuple ys]))), some (.dat (.list is)), some (.dat (.int pk)), none, none, some (.dat (.int k2)), some (.dat (.int j2)), none] (.sub (.v 1) (.c (.int 0))) (Ok (n' + 2)) := ⟨.str w, fun S => by simp only [ev_sub, ev_v0, ev_vs, ev_bok, ev_c, vv_sub0, ev_ofs], .str hw⟩
            obtain ⟨_, q1, us, rfl, q2, q3⟩ := DE.tup (DEs.cons q0 (.cons (q.imp fun d ⟨xs, e, h1, h2⟩ => by rw [e]; exact (Ok.tup (n := n') (by omega) h2).mono (by omega)) .nil)) (by decide)
            have q2' : us.length ≤ 2 := q2
            refine ⟨.tuple us, S5, at_app (w_ifB hc3 ?_ srt), (Ok.tup (n := n' + 2) (by omega) q3).mono (by omega), hS5⟩
            rw [w_par c3 c4]
            exact w_ret (q1 S5)
end
end Cw

namespace Cw
open PySem (PyData)
section
variable {Δ : List Fd} {I : Ix} {n m : Nat} {B : Lent} {S S1 S2 : Sta} {cf : CallF} {ρ : Rho} {P Q : D → Prop}
theorem odd_run (hN : Δ[I.law_next]? = some (s_law_next I)) (hI : Δ[I.law_ints]? = some (s_law_ints I)) (hX : Δ[I.law_exchanged]? = some (s_law_exchanged I)) (hC : Δ[I.law_cut]? = some (s_law_cut I)) (hT : Δ[I.law_turned_about]? = some (s_law_turned_about I)) (hG : Δ[I.law_changed]? = some (s_law_changed I)) (h : Δ[I.law_odd]? = some (s_law_odd I)) {v : D} (hv : Tld n v) (hn : n ≤ 50) {m : Nat} (hm : n + 8 ≤ m) (hS : StaOk S) :
    Gv (run Δ m I.law_odd [.st, .dat v] B S) (Ok (n + 3)) := by
  obtain ⟨w, r, rfl, hw, hwl, hrl, hr, hc⟩ := id hv.ex
  obtain ⟨m, rfl⟩ : ∃ k, m = k + 2 := ⟨m - 2, by omega⟩
  rw [run_at h rfl]
  show Gv ((xSs (run Δ (m + 1)) B (s_law_odd I).body [some .st, some (.dat (.tuple (.str w :: r))), none, none] S).fin) _
  have tmT : Tm (n + 1) (.tuple (.str w :: r)) := .tup (by simp; omega) fun d hd => by
    rcases List.mem_cons.mp hd with q | q
    · rw [q]; exact .str hw hwl
    · exact (hr d q).tm
  have itm : ∀ d ∈ (PyData.str w :: r), Ok n d := fun d hd => by
    rcases List.mem_cons.mp hd with q | q
    · rw [q]; exact .str hw
    · exact (hr d q).tm.ok
  have v1 : DE (run Δ (m + 1)) B [some .st, some (.dat (.tuple (.str w :: r))), none, none] (.v 1) (TP 901 (Ok (n + 1))) := .v rfl ⟨_, rfl, by simp; omega, fun d hd => (itm d hd).mono (by omega)⟩
  have ct : Cuts B (TP 901 (Ok (n + 1))) := cutsT
  have to : ∀ {L : Nat} d, L ≤ 1000000 → TP L (Ok (n + 1)) d → Ok (n + 3) d := fun {L} d hL ⟨xs, e, h1, h2⟩ => by
    rw [e]
    exact (Ok.tup (by omega) h2).mono (by omega)
  have c1 : DE (run Δ (m + 1)) B [some .st, some (.dat (.tuple (.str w :: r))), none, none] (.c (.int 1)) IP := .con ⟨1, rfl⟩
  have e9 : DE (run Δ (m + 1)) B [some .st, some (.dat (.tuple (.str w :: r))), none, none] (.tup [.lst [.sub (.v 1) (.c (.int 0))]]) (TP 1 (Ok (n + 1))) :=
    DE.tup (.cons ⟨.list [.str w], fun S => by simp, .lst (by simp) fun d hd => by rw [List.mem_singleton.mp hd]; exact .str hw⟩ .nil) (by decide)
  obtain ⟨_, f1, xs, rfl, f2, f3⟩ := DE.lst (cf := run Δ (m + 1)) (B := B) (ρ := [some .st, some (.dat (.tuple (.str w :: r))), none, none]) (P := Ok (n + 3)) (es := [(.c .none), (.c (.str (PySem.Str.ofString ""))), (.c (.str (PySem.Str.ofString "yes"))), .mtd, (.tup []), (.slcH (.v 1) (.c (.int 1))), (.blt .list [(.v 1)]), (.bin .add (.v 1) (.tup [(.c (.int 0))])), (.bin .add (.tup [(.lst [(.sub (.v 1) (.c (.int 0)))])]) (.slcL (.v 1) (.c (.int 1)))), (.bin .add (.tup [(.c (.str (PySem.Str.ofString "none such")))]) (.slcL (.v 1) (.c (.int 1)))), (.c (.int 7))])
    (.cons (.con .non) (.cons (.con (.str (sOk_str _))) (.cons (.con (.str (sOk_str _))) (.cons ⟨.dict [], fun S => rfl, .dic⟩ (.cons ⟨.tuple [], fun S => rfl, .tup (by simp) fun _ h => by cases h⟩ (.cons ((DE.slcH ct v1 c1).imp fun d => to d (by omega))
      (.cons ⟨.list (.str w :: r), fun S => by simp [bltE, seqOf], (Ok.lst (by simp; omega) itm).mono (by omega)⟩ (.cons ((DE.addT (M := 1) v1 (DE.tup (es := [.c (.int 0)]) (.cons (.con (.int 0)) .nil) (by decide)) (by omega)).imp fun d => to d (by omega))
        (.cons ((DE.addT e9 (.slcL ct v1 c1) (by omega)).imp fun d => to d (by omega)) (.cons ((DE.addT (L := 1) (DE.tup (es := [.c (.str (PySem.Str.ofString "none such"))]) (.cons (.con (.str (sOk_str _))) .nil) (by decide)) (.slcL ct v1 c1) (by omega)).imp fun d => to d (by omega)) (.cons (.con (.int _)) .nil))))))))))) (by decide)
  have f2' : xs.length = 11 := f2
  obtain ⟨pk, S1, a2, hpk, hS1⟩ := draw (Δ := Δ) (I := I) (m := m) (B := B) (ρ := [some .st, some (.dat (.tuple (.str w :: r))), some (.dat (.list xs)), none]) (x := .c (.int 9)) (l := 9) hN hS rfl ⟨_, fun _ => rfl, rfl⟩ (by decide) (by decide)
  rw [s_law_odd, w_set (f1 S), List.set_cons_succ, List.set_cons_succ, List.set_cons_zero, w_set a2, List.set_cons_succ, List.set_cons_succ, List.set_cons_succ, List.set_cons_zero]
  have hc1 : eT (run Δ (m + 1)) B (.cmp .gt (.v 3) (.c (.int 4))) [some .st, some (.dat (.tuple (.str w :: r))), some (.dat (.list xs)), some (.dat (.int pk))] S1 = .ok (decide ((4 : Int) < pk)) S1 := by
    unfold eT
    simp only [ev_cmp, ev_v0, ev_vs, ev_bok, ev_c, vv_gt, Option.map_some, ev_ofs, vv_tb]
  cases hz : decide ((4 : Int) < pk) with
  | true =>
    rw [hz] at hc1
    obtain ⟨d, S2, e, p, q⟩ := turned_run (B := []) hN hI hX hC hT hv hn (m := m + 1) (by omega) hS1
    refine ⟨d, S2, at_app (w_ifT hc1 ?_), p, q⟩
    simp only [ev_call, ev_cons, ev_nil, ev_v0, ev_vs, ev_bok, vv_ps, vv_pd, vv_p0, Option.map_some, ev_ofs, e]
  | false =>
    rw [hz] at hc1
    rw [w_ifF hc1]
    cases hq : ((pk : Int) == 0) with
    | true =>
      obtain ⟨d, S2, e, p, q⟩ := pickv (P := Ok (n + 3)) (m := m) (B := B) (ρ := [some .st, some (.dat (.tuple (.str w :: r))), some (.dat (.list xs)), some (.dat (.int pk))]) (i := 2) (ds := xs) hN hS1 rfl rfl f3 (by omega) (by omega)
      refine ⟨d, S2, at_app (w_ret ?_), p, q⟩
      simp only [ev_ite, ev_cmp, ev_v0, ev_vs, ev_bok, ev_c, vv_eqi, hq, Option.map_some, ev_ofs, vv_tb, if_true, e]
    | false =>
      obtain ⟨d, S2, e, p, q⟩ := changed_run hN hG (n + 1) _ tmT (by omega) (m + 1) [] S1 (by omega) hS1
      refine ⟨d, S2, at_app (w_ret ?_), p, q⟩
      simp only [ev_ite, ev_cmp, ev_v0, ev_vs, ev_bok, ev_c, vv_eqi, hq, Option.map_some, ev_ofs, vv_tb, Bool.false_eq_true, if_false, ev_call, ev_cons, ev_nil, vv_ps, vv_pd, vv_p0, e]
/-- a fraction with a divisor above 0, both small -/
def frP (k : Int) (d : D) : Prop := ∃ p q : Int, d = .tuple [.int p, .int q] ∧ 0 < q ∧ q ≤ k ∧ -k ≤ p ∧ p ≤ k
theorem frP.nm {k : Int} {d : D} (h : frP k d) (hk : k ≤ 1000000) : Nm 1 d := by
  obtain ⟨p, q, rfl, h1, h2, h3, h4⟩ := h
  have bd : ∀ i : Int, -1000000 ≤ i → i ≤ 1000000 → i.natAbs < 2 ^ 1000 := fun i a b => Nat.lt_of_lt_of_le (show i.natAbs < 2 ^ 20 by omega) (Nat.pow_le_pow_right (by omega) (by omega))
  refine .tup (by simp) fun d hd => ?_
  simp only [List.mem_cons, List.not_mem_nil, or_false] at hd
  rcases hd with rfl | rfl
  · exact .int (bd _ (by omega) (by omega))
  · exact .int (bd _ (by omega) (by omega))
/-- the neighbour of a row of fractions -/
theorem nb_run (hN : Δ[I.law_next]? = some (s_law_next I)) (h : Δ[I.law_neighbour]? = some (s_law_neighbour I)) {ds : List D} {k : Int} (hk : k ≤ 1000) (hl : ds.length ≤ 1000) (hd : ∀ d ∈ ds, frP k d) {m : Nat} (hm : 2 ≤ m) (hS : StaOk S) :
    Gv (run Δ m I.law_neighbour [.st, .dat (.tuple ds)] B S) (fun d => ∃ us, d = .tuple us ∧ us.length ≤ 2001 ∧ ∀ u ∈ us, frP (2 * k) u) := by
  obtain ⟨m, rfl⟩ : ∃ k, m = k + 2 := ⟨m - 2, by omega⟩
  have hnm : ∀ d ∈ ds, Nm 1 d := fun d hd' => (hd d hd').nm (by omega)
  have up : ∀ d, frP k d → frP (2 * k) d := fun d ⟨p, q, e, a, b, c, f⟩ => ⟨p, q, e, a, by omega, by omega, by omega⟩
  rw [run_at h rfl]
  show Gv ((xSs (run Δ (m + 1)) B (s_law_neighbour I).body [some .st, some (.dat (.tuple ds)), none, none, none, none] S).fin) _
  obtain ⟨_, S1, a1, ⟨stp, rfl, hstp⟩, hS1⟩ := pick (Δ := Δ) (I := I) (P := fun d => ∃ s : Int, d = .int s ∧ (s = 1 ∨ s = -1)) (m := m) (B := B) (ρ := [some .st, some (.dat (.tuple ds)), none, none, none, none]) (es := [(.c (.int 1)), (.neg (.c (.int 1)))]) (x := .c (.int 2)) hN hS rfl
    (.cons (.con ⟨1, rfl, .inl rfl⟩) (.cons ⟨.int (-1), fun S => rfl, -1, rfl, .inr rfl⟩ .nil)) (by decide) (by decide) ⟨_, fun _ => rfl, rfl⟩
  have tmT : Tm 2 (.tuple ds) := (Nm.tup hl hnm).tm
  obtain ⟨_, ne2⟩ := ne_nil (B := B) tmT (by omega)
  have hc1 : eT (run Δ (m + 1)) B (.ors [(.not (.isi (.v 1) [.tuple] true)), (.cmp .eq (.v 1) (.tup []))]) [some .st, some (.dat (.tuple ds)), some (.dat (.int stp)), none, none, none] S1 = .ok ds.isEmpty S1 := by
    have t1 : tyAny (.dat (.tuple ds)) [.tuple] = some true := rfl
    have tn : ∀ (ρ : Rho) (S : Sta), eE (run Δ (m + 1)) B (.tup []) ρ S = .ok (.dat (.tuple [])) S := fun _ _ => rfl
    unfold eT
    simp only [ev_ors, ev_ors1, ev_not, ev_isi, ev_v0, ev_vs, ev_bok, t1, Option.map_some, ev_ofs, vv_tb, Bool.not_true, Bool.false_eq_true, if_false, ev_cmp, tn, ne2]
  rw [s_law_neighbour, w_ifF (t_isi (d := .tuple ds) rfl rfl), w_set a1, List.set_cons_succ, List.set_cons_succ, List.set_cons_zero, w_ifF (t_isi (d := .tuple ds) rfl rfl)]
  cases ds with
  | nil => exact ⟨.tuple [], S1, at_app (w_ifT hc1 rfl), ⟨[], rfl, by simp, fun _ h => by cases h⟩, hS1⟩
  | cons x xs =>
    rw [w_ifF hc1]
    obtain ⟨k2, S2, a2, hk2, hS2⟩ := draw (Δ := Δ) (I := I) (m := m) (B := B) (ρ := [some .st, some (.dat (.tuple (x :: xs))), some (.dat (.int stp)), none, none, none]) (x := .blt .len [.v 1]) (l := (x :: xs).length) hN hS1 rfl ⟨_, fun S => by simp only [ev_blt, ev_cons, ev_nil, ev_v0, ev_vs, ev_bok, vv_len, ev_ofs], rfl⟩ (by simp) (by omega)
    have hget : (x :: xs)[k2]? = some (x :: xs)[k2] := List.getElem?_eq_getElem hk2
    obtain ⟨p, q, epq, q1, q2, q3, q4⟩ := hd _ (List.getElem_mem hk2)
    have hget' : (x :: xs)[k2]? = some (.tuple [.int p, .int q]) := by rw [hget, epq]
    rw [w_set a2, List.set_cons_succ, List.set_cons_succ, List.set_cons_succ, List.set_cons_zero, w_set (S' := S2) (d := .tuple [.int p, .int q]) (by simp only [ev_sub, ev_v0, ev_vs, ev_bok, vv_sub_t, at_nat hget', Option.map_some, ev_ofs]), List.set_cons_succ, List.set_cons_succ, List.set_cons_succ, List.set_cons_succ, List.set_cons_zero]
    have hc2 : eT (run Δ (m + 1)) B (.ands [(.isi (.v 4) [.int] true), (.cmp .gt (.call I.law_next [(.v 0), (.c (.int 3))]) (.c (.int 0)))]) [some .st, some (.dat (.tuple (x :: xs))), some (.dat (.int stp)), some (.dat (.int k2)), some (.dat (.tuple [.int p, .int q])), none] S2 = .ok false S2 := rfl
    rw [w_ifF hc2]
    obtain ⟨t, S3, a3, ht, hS3⟩ := draw (Δ := Δ) (I := I) (m := m) (B := B) (ρ := [some .st, some (.dat (.tuple (x :: xs))), some (.dat (.int stp)), some (.dat (.int k2)), some (.dat (.tuple [.int p, .int q])), none]) (x := .c (.int 3)) (l := 3) hN hS2 rfl ⟨_, fun _ => rfl, rfl⟩ (by decide) (by decide)
    have hc3 : eT (run Δ (m + 1)) B (.ands [(.isi (.v 4) [.tuple] true), (.cmp .eq (.blt .len [(.v 4)]) (.c (.int 2))), (.cmp .eq (.lc [5] (.v 5) (.val (.v 4)) [(.not (.isi (.v 5) [.int] true))] (.v 5)) (.lst [])), (.cmp .gt (.sub (.v 4) (.c (.int 1))) (.c (.int 0))), (.cmp .gt (.call I.law_next [(.v 0), (.c (.int 3))]) (.c (.int 0)))]) [some .st, some (.dat (.tuple (x :: xs))), some (.dat (.int stp)), some (.dat (.int k2)), some (.dat (.tuple [.int p, .int q])), none] S2 = .ok (decide ((0 : Int) < t)) S3 := by
      have t1 : tyAny (.dat (.tuple [.int p, .int q])) [.tuple] = some true := rfl
      have t2 : (((([PyData.int p, PyData.int q] : List D).length : Nat) : Int) == 2) = true := rfl
      have t3 : ∀ S, eE (run Δ (m + 1)) B (.cmp .eq (.lc [5] (.v 5) (.val (.v 4)) [(.not (.isi (.v 5) [.int] true))] (.v 5)) (.lst [])) [some .st, some (.dat (.tuple (x :: xs))), some (.dat (.int stp)), some (.dat (.int k2)), some (.dat (.tuple [.int p, .int q])), none] S = .ok (.dat (.bool true)) S := fun S => rfl
      have t4 : decide ((0 : Int) < q) = true := by simpa using q1
      unfold eT
      simp only [ev_ands, ev_ands1, ev_isi, ev_v0, ev_vs, ev_bok, t1, Option.map_some, ev_ofs, vv_tb, if_true, t3]
      simp only [ev_cmp, ev_blt, ev_cons, ev_nil, ev_v0, ev_vs, ev_bok, vv_len, ev_c, vv_eqi, t2, Option.map_some, ev_ofs, vv_tb, if_true, t3, ev_sub, vv_sub1, vv_gt, t4, a3]
    have v1 : DE (run Δ (m + 1)) B [some .st, some (.dat (.tuple (x :: xs))), some (.dat (.int stp)), some (.dat (.int k2)), some (.dat (.tuple [.int p, .int q])), none] (.v 1) (TP 1000 (frP (2 * k))) := .v rfl ⟨_, rfl, hl, fun d hd' => up d (hd d hd')⟩
    have v3 : DE (run Δ (m + 1)) B [some .st, some (.dat (.tuple (x :: xs))), some (.dat (.int stp)), some (.dat (.int k2)), some (.dat (.tuple [.int p, .int q])), none] (.v 3) IP := .v rfl ⟨_, rfl⟩
    have ct : Cuts B (TP 1000 (frP (2 * k))) := cutsT
    cases hz : decide ((0 : Int) < t) with
    | true =>
      rw [hz] at hc3
      have fs : fit stp = true := fit_small (by rcases hstp with rfl | rfl <;> decide)
      have fq : fit q = true := fit_small (Nat.lt_of_lt_of_le (show q.natAbs < 2 ^ 20 by omega) (by decide))
      have ey : eE (run Δ (m + 1)) B (.tup [(.bin .add (.sub (.v 4) (.c (.int 0))) (.bin .mul (.v 2) (.sub (.v 4) (.c (.int 1))))), (.sub (.v 4) (.c (.int 1)))]) [some .st, some (.dat (.tuple (x :: xs))), some (.dat (.int stp)), some (.dat (.int k2)), some (.dat (.tuple [.int p, .int q])), none] S3 = .ok (.dat (.tuple [.int (p + stp * q), .int q])) S3 := by
        simp [vv_mul fs fq]
      have pf : frP (2 * k) (.tuple [.int (p + stp * q), .int q]) := by
        refine ⟨_, _, rfl, q1, by omega, ?_, ?_⟩ <;> rcases hstp with rfl | rfl <;> omega
      obtain ⟨us, e4, l4, p4⟩ := splice (.slcH ct v1 v3) ey pf (.slcL ct v1 (.addI v3 (.con ⟨1, rfl⟩))) (by omega)
      exact ⟨.tuple us, S3, at_app (w_ifT hc3 e4), ⟨us, rfl, by omega, p4⟩, hS3⟩
    | false =>
      rw [hz] at hc3
      rw [w_ifF hc3]
      obtain ⟨_, e4, us, rfl, l4, p4⟩ := DE.addT (.slcH ct v1 v3) (.slcL ct v1 (.addI v3 (.con ⟨1, rfl⟩))) (by omega)
      exact ⟨.tuple us, S3, at_app (w_ret (e4 S3)), ⟨us, rfl, by omega, p4⟩, hS3⟩
end
end Cw

namespace Cw.k58
open PySem PySem.Spec PyProof.Rows L2 Cw
def d0 : Fd := ⟨"is_whole", 1, 1, [.ret (.ands [(.isi (.v 0) [.int] true), (.not (.isi (.v 0) [.bool] true))])]⟩
def d1 : Fd := ⟨"is_told", 3, 3, [.ite (.ors [(.not (.isi (.v 0) [.tuple] true)), (.cmp .ne (.blt .len [(.v 0)]) (.v 2))]) [.ret (.c (.bool false))] [], .ret (.ands [(.isi (.sub (.v 0) (.c (.int 0))) [.str] true), (.cmp .eq (.sub (.v 0) (.c (.int 0))) (.v 1))])]⟩
def d2 : Fd := ⟨"divisor", 2, 2, [.whl (.slot 1) (.cmp .ne (.v 1) (.c (.int 0))) [.par2 0 1 (.v 1) (.bin .mod (.v 0) (.v 1))], .ret (.blt .abs [(.v 0)])]⟩
def d3 : Fd := ⟨"ratio", 2, 3, [.set 2 (.call 2 [(.v 0), (.v 1)]), .ite (.cmp .lt (.v 1) (.c (.int 0))) [.set 2 (.neg (.v 2))] [], .ret (.tup [(.bin .fdiv (.v 0) (.v 2)), (.bin .fdiv (.v 1) (.v 2))])]⟩
def d4 : Fd := ⟨"mul", 2, 2, [.ret (.call 3 [(.bin .mul (.sub (.v 0) (.c (.int 0))) (.sub (.v 1) (.c (.int 0)))), (.bin .mul (.sub (.v 0) (.c (.int 1))) (.sub (.v 1) (.c (.int 1))))])]⟩
def d5 : Fd := ⟨"div", 2, 2, [.ret (.call 3 [(.bin .mul (.sub (.v 0) (.c (.int 0))) (.sub (.v 1) (.c (.int 1)))), (.bin .mul (.sub (.v 0) (.c (.int 1))) (.sub (.v 1) (.c (.int 0))))])]⟩
def d6 : Fd := ⟨"less", 2, 2, [.ret (.cmp .lt (.bin .mul (.sub (.v 0) (.c (.int 0))) (.sub (.v 1) (.c (.int 1)))) (.bin .mul (.sub (.v 1) (.c (.int 0))) (.sub (.v 0) (.c (.int 1)))))]⟩
def d7 : Fd := ⟨"whole", 1, 1, [.ret (.tup [(.v 0), (.c (.int 1))])]⟩
def d8 : Fd := ⟨"is_fraction", 1, 1, [.ite (.ors [(.not (.isi (.v 0) [.tuple] true)), (.cmp .ne (.blt .len [(.v 0)]) (.c (.int 2))), (.not (.call 0 [(.sub (.v 0) (.c (.int 0)))])), (.not (.call 0 [(.sub (.v 0) (.c (.int 1)))]))]) [.ret (.c (.bool false))] [], .ret (.ands [(.cmp .gt (.sub (.v 0) (.c (.int 1))) (.c (.int 0))), (.cmp .eq (.call 2 [(.sub (.v 0) (.c (.int 0))), (.sub (.v 0) (.c (.int 1)))]) (.c (.int 1)))])]⟩
def d9 : Fd := ⟨"are_fractions", 2, 3, [.ret (.ands [(.isi (.v 0) [.tuple] true), (.cmp .eq (.blt .len [(.v 0)]) (.v 1)), (.cmp .nin (.c (.bool false)) (.lc [2] (.v 2) (.val (.v 0)) [] (.call 8 [(.v 2)])))])]⟩
def d10 : Fd := ⟨"check_dice", 2, 2, [.ite (.ors [(.not (.v 0)), (.cmp .lt (.v 1) (.c (.int 0)))]) [.rse 0] [], .ite (.ors [(.cmp .gt (.blt .len [(.v 0)]) (.c (.int 8))), (.cmp .gt (.v 1) (.c (.int 6)))]) [.rse 1] []]⟩
def d11 : Fd := ⟨"beats", 2, 7, [.ex (.call 10 [(.v 0), (.c (.int 1))]), .ex (.call 10 [(.v 1), (.c (.int 1))]), .set 2 (.call 5 [(.g 1), (.call 7 [(.bin .mul (.blt .len [(.v 0)]) (.blt .len [(.v 1)]))])]), .set 3 (.blt .len [(.lc2 [5, 6] [6] (.v 5) (.val (.v 0)) [] (.v 6) (.val (.v 1)) [(.call 6 [(.v 6), (.v 5)])] (.c (.int 1)))]), .set 4 (.blt .len [(.lc2 [5, 6] [6] (.v 5) (.val (.v 0)) [] (.v 6) (.val (.v 1)) [(.call 6 [(.v 5), (.v 6)])] (.c (.int 1)))]), .ret (.tup [(.c (.str (PySem.Str.ofString "beats"))), (.call 4 [(.call 7 [(.v 3)]), (.v 2)]), (.call 4 [(.call 7 [(.v 4)]), (.v 2)])])]⟩
def d12 : Fd := ⟨"judge_beats", 3, 4, [.set 3 (.call 11 [(.v 0), (.v 1)]), .ret (.ands [(.call 1 [(.v 2), (.c (.str (PySem.Str.ofString "beats"))), (.c (.int 3))]), (.call 9 [(.slcL (.v 2) (.c (.int 1))), (.c (.int 2))]), (.cmp .eq (.v 2) (.v 3))])]⟩
def d13 : Fd := ⟨"_law_next", 2, 4, [.ite (.ands [(.cmp .eq (.sub (.v 0) (.c (.int 2))) (.c (.int 0))), (.cmp .lt (.sub (.v 0) (.c (.int 1))) (.blt .len [(.sub (.v 0) (.c (.int 0)))]))]) [.set 2 (.sub (.sub (.v 0) (.c (.int 0))) (.sub (.v 0) (.c (.int 1)))), .augs 0 1 (.c (.int 1)), .ite (.cmp .ge (.v 2) (.bin .pow (.c (.int 10)) (.c (.int 18)))) [.sit 0 (.c (.int 2)) (.v 2)] [.sit 0 (.c (.int 3)) (.bin .mod (.blt .int [(.bin .add (.bin .add (.bin .mul (.sub (.v 0) (.c (.int 3))) (.c (.int 48271))) (.bin .mod (.blt .int [(.v 2)]) (.c (.int 2147483647)))) (.c (.int 7)))]) (.c (.int 2147483647)))]] [], .ite (.cmp .gt (.sub (.v 0) (.c (.int 2))) (.c (.int 0))) [.set 3 (.bin .mod (.blt .int [(.sub (.v 0) (.c (.int 2)))]) (.v 1)), .sit 0 (.c (.int 2)) (.bin .fdiv (.sub (.v 0) (.c (.int 2))) (.v 1)), .ret (.v 3)] [], .sit 0 (.c (.int 3)) (.bin .mod (.blt .int [(.bin .add (.bin .mul (.sub (.v 0) (.c (.int 3))) (.c (.int 69621))) (.c (.int 12345)))]) (.c (.int 2147483647))), .ret (.bin .mod (.blt .int [(.bin .fdiv (.sub (.v 0) (.c (.int 3))) (.c (.int 7)))]) (.v 1))]⟩
def d14 : Fd := ⟨"_law_same", 2, 3, [.ite (.cmp .isx (.v 1) (.c .none)) [.ret (.cmp .isx (.v 0) (.c .none))] [], .ite (.isi (.v 1) [.bool] true) [.ret (.ands [(.isi (.v 0) [.bool] true), (.cmp .eq (.v 0) (.v 1))])] [], .ite (.isi (.v 1) [.int] true) [.ret (.ands [(.isi (.v 0) [.int] true), (.not (.isi (.v 0) [.bool] true)), (.cmp .eq (.v 0) (.v 1))])] [], .ite (.isi (.v 1) [.str] true) [.ret (.ands [(.isi (.v 0) [.str] true), (.cmp .eq (.v 0) (.v 1))])] [], .ite (.ands [(.isi (.v 1) [.tuple] true), (.not (.isi (.v 0) [.tuple] true))]) [.ret (.c (.bool false))] [], .ite (.ands [(.isi (.v 1) [.list] true), (.not (.isi (.v 0) [.list] true))]) [.ret (.c (.bool false))] [], .ite (.cmp .ne (.blt .len [(.v 0)]) (.blt .len [(.v 1)])) [.ret (.c (.bool false))] [], .for (.v 2) (.rng1 (.blt .len [(.v 1)])) [.ite (.not (.call 14 [(.sub (.v 0) (.v 2)), (.sub (.v 1) (.v 2))])) [.ret (.c (.bool false))] []], .ret (.c (.bool true))]⟩
def d15 : Fd := ⟨"_law_changed", 2, 7, [.ite (.isi (.v 1) [.bool] true) [.ret (.sub (.lst [(.not (.v 1)), (.blt .int [(.v 1)])]) (.call 13 [(.v 0), (.c (.int 2))]))] [], .ite (.ors [(.cmp .isx (.v 1) (.c .none)), (.isi (.v 1) [.int] true)]) [.ret (.sub (.lst [(.bin .add (.ors [(.v 1), (.c (.int 0))]) (.c (.int 1))), (.bin .sub (.ors [(.v 1), (.c (.int 0))]) (.c (.int 1))), (.c (.int 0)), (.c .none), (.cmp .eq (.v 1) (.c (.int 1))), (.blt .str [(.v 1)]), (.bin .mul (.c (.int 2)) (.ors [(.v 1), (.c (.int 1))]))]) (.call 13 [(.v 0), (.c (.int 7))]))] [], .ite (.isi (.v 1) [.str] true) [.set 5 (.lst [(.slcL (.v 1) (.c (.int 1))), (.bin .add (.v 1) (.c (.str (PySem.Str.ofString "a")))), (.rev (.v 1)), (.bin .add (.c (.str (PySem.Str.ofString "b"))) (.v 1)), (.c (.str (PySem.Str.ofString ""))), (.slcH (.v 1) (.neg (.c (.int 1)))), (.c (.str (PySem.Str.ofString "left"))), (.c (.int 3)), (.c (.str (PySem.Str.ofString "in")))]), .ret (.sub (.v 5) (.call 13 [(.v 0), (.blt .len [(.v 5)])]))] [], .ite (.ands [(.isi (.v 1) [.tuple] true), (.cmp .ne (.v 1) (.tup [])), (.cmp .gt (.call 13 [(.v 0), (.c (.int 4))]) (.c (.int 0)))]) [.set 2 (.call 13 [(.v 0), (.blt .len [(.v 1)])]), .ret (.bin .add (.bin .add (.slcH (.v 1) (.v 2)) (.tup [(.call 15 [(.v 0), (.sub (.v 1) (.v 2))])])) (.slcL (.v 1) (.bin .add (.v 2) (.c (.int 1)))))] [], .ite (.not (.isi (.v 1) [.tuple] true)) [.ret (.tup [])] [], .set 2 (.call 13 [(.v 0), (.bin .add (.blt .len [(.v 1)]) (.c (.int 1)))]), .set 3 (.call 13 [(.v 0), (.bin .add (.blt .len [(.v 1)]) (.c (.int 1)))]), .set 4 (.lst [(.bin .add (.slcH (.v 1) (.v 2)) (.slcL (.v 1) (.bin .add (.v 2) (.c (.int 1))))), (.bin .add (.v 1) (.slcH (.v 1) (.c (.int 1)))), (.rev (.v 1)), (.bin .add (.slcL (.v 1) (.v 2)) (.slcH (.v 1) (.v 2))), (.blt .list [(.v 1)]), (.slcH (.v 1) (.v 2)), (.tup []), (.bin .add (.v 1) (.tup [(.c (.int 0))]))]), .ite (.chn .lt .lt (.v 2) (.v 3) (.blt .len [(.v 1)])) [.set 4 (.bin .add (.v 4) (.lc [6] (.v 6) (.rng1 (.c (.int 3))) [] (.bin .add (.bin .add (.bin .add (.bin .add (.slcH (.v 1) (.v 2)) (.slcB (.v 1) (.v 3) (.bin .add (.v 3) (.c (.int 1))))) (.slcB (.v 1) (.bin .add (.v 2) (.c (.int 1))) (.v 3))) (.slcB (.v 1) (.v 2) (.bin .add (.v 2) (.c (.int 1))))) (.slcL (.v 1) (.bin .add (.v 3) (.c (.int 1)))))))] [], .ret (.sub (.v 4) (.call 13 [(.v 0), (.blt .len [(.v 4)])]))]⟩
def d16 : Fd := ⟨"_law_ints", 1, 4, [.ite (.ors [(.isi (.v 0) [.bool] true), (.not (.isi (.v 0) [.int, .tuple] false))]) [.ret (.lst [])] [], .ite (.isi (.v 0) [.int] true) [.ret (.lst [(.v 0)])] [], .set 1 (.lst []), .for (.v 2) (.val (.v 0)) [.set 1 (.bin .add (.v 1) (.lc [3] (.v 3) (.val (.call 16 [(.v 2)])) [(.cmp .nin (.v 3) (.v 1))] (.v 3)))], .ret (.v 1)]⟩
def d17 : Fd := ⟨"_law_exchanged", 3, 4, [.ite (.ors [(.isi (.v 0) [.bool] true), (.not (.isi (.v 0) [.int, .tuple] false))]) [.ret (.v 0)] [], .ite (.isi (.v 0) [.int] true) [.ret (.ite (.cmp .eq (.v 0) (.v 1)) (.v 2) (.ite (.cmp .eq (.v 0) (.v 2)) (.v 1) (.v 0)))] [], .ret (.blt .tuple [(.lc [3] (.v 3) (.val (.v 0)) [] (.call 17 [(.v 3), (.v 1), (.v 2)]))])]⟩
def d18 : Fd := ⟨"_law_cut", 2, 6, [.ite (.ors [(.not (.isi (.v 1) [.tuple] true)), (.cmp .eq (.v 1) (.tup []))]) [.ret (.v 1)] [], .ite (.cmp .ne (.lc [5] (.v 5) (.val (.v 1)) [(.not (.isi (.v 5) [.str] true))] (.v 5)) (.lst [])) [.set 2 (.call 13 [(.v 0), (.blt .len [(.v 1)])]), .ret (.bin .add (.bin .add (.slcH (.v 1) (.v 2)) (.tup [(.call 18 [(.v 0), (.sub (.v 1) (.v 2))])])) (.slcL (.v 1) (.bin .add (.v 2) (.c (.int 1)))))] [], .set 2 (.call 13 [(.v 0), (.blt .len [(.v 1)])]), .set 3 (.call 13 [(.v 0), (.bin .add (.blt .len [(.sub (.v 1) (.v 2))]) (.c (.int 1)))]), .set 4 (.lst [(.bin .add (.bin .add (.slcH (.v 1) (.v 2)) (.tup [(.slcH (.sub (.v 1) (.v 2)) (.v 3)), (.slcL (.sub (.v 1) (.v 2)) (.v 3))])) (.slcL (.v 1) (.bin .add (.v 2) (.c (.int 1))))), (.bin .add (.bin .add (.slcH (.v 1) (.v 2)) (.tup [(.mth .join (.c (.str (PySem.Str.ofString ""))) [(.slcB (.v 1) (.v 2) (.bin .add (.v 2) (.c (.int 2))))])])) (.slcL (.v 1) (.bin .add (.v 2) (.c (.int 2)))))]), .set 4 (.bin .add (.v 4) (.lst [(.tup [(.mth .join (.c (.str (PySem.Str.ofString ""))) [(.v 1)])]), (.blt .tuple [(.mth .join (.c (.str (PySem.Str.ofString ""))) [(.v 1)])]), (.bin .add (.bin .add (.slcH (.v 1) (.v 2)) (.tup [(.c (.str (PySem.Str.ofString "")))])) (.slcL (.v 1) (.v 2))), (.bin .add (.bin .add (.slcH (.v 1) (.v 2)) (.rev (.slcB (.v 1) (.v 2) (.bin .add (.v 2) (.c (.int 2)))))) (.slcL (.v 1) (.bin .add (.v 2) (.c (.int 2)))))])), .ret (.sub (.v 4) (.call 13 [(.v 0), (.blt .len [(.v 4)])]))]⟩
def d19 : Fd := ⟨"_law_turned_about", 2, 9, [.set 2 (.call 16 [(.v 1)]), .set 3 (.call 13 [(.v 0), (.c (.int 5))]), .ite (.ands [(.cmp .lt (.v 3) (.c (.int 3))), (.cmp .ne (.v 2) (.lst []))]) [.set 4 (.sub (.v 2) (.call 13 [(.v 0), (.blt .len [(.v 2)])])), .set 5 (.ite (.cmp .eq (.v 3) (.c (.int 0))) (.bin .add (.v 4) (.c (.int 1))) (.sub (.v 2) (.call 13 [(.v 0), (.blt .len [(.v 2)])]))), .ret (.call 17 [(.v 1), (.v 4), (.v 5)])] [], .ite (.cmp .eq (.v 3) (.c (.int 3))) [.ret (.bin .add (.slcH (.v 1) (.c (.int 1))) (.ite (.cmp .gt (.blt .len [(.v 1)]) (.c (.int 2))) (.call 18 [(.v 0), (.slcL (.v 1) (.c (.int 1)))]) (.blt .tuple [(.lc [8] (.v 8) (.val (.slcL (.v 1) (.c (.int 1)))) [] (.call 18 [(.v 0), (.v 8)]))])))] [], .par2 6 7 (.call 13 [(.v 0), (.blt .len [(.v 1)])]) (.call 13 [(.v 0), (.blt .len [(.v 1)])]), .ite (.ands [(.cmp .eq (.blt .len [(.v 1)]) (.c (.int 2))), (.isi (.sub (.v 1) (.c (.int 1))) [.tuple] true), (.cmp .ne (.sub (.v 1) (.c (.int 1))) (.tup []))]) [.par2 6 7 (.call 13 [(.v 0), (.blt .len [(.sub (.v 1) (.c (.int 1)))])]) (.call 13 [(.v 0), (.blt .len [(.sub (.v 1) (.c (.int 1)))])]), .ret (.tup [(.sub (.v 1) (.c (.int 0))), (.bin .add (.bin .add (.slcH (.sub (.v 1) (.c (.int 1))) (.v 6)) (.slcB (.sub (.v 1) (.c (.int 1))) (.v 7) (.bin .add (.v 7) (.c (.int 1))))) (.slcL (.sub (.v 1) (.c (.int 1))) (.bin .add (.v 6) (.c (.int 1)))))])] [], .ret (.ite (.ands [(.cmp .gt (.v 6) (.c (.int 0))), (.cmp .gt (.v 7) (.c (.int 0)))]) (.bin .add (.bin .add (.slcH (.v 1) (.v 6)) (.slcB (.v 1) (.v 7) (.bin .add (.v 7) (.c (.int 1))))) (.slcL (.v 1) (.bin .add (.v 6) (.c (.int 1))))) (.v 1))]⟩
def d20 : Fd := ⟨"_law_odd", 2, 4, [.set 2 (.lst [(.c .none), (.c (.str (PySem.Str.ofString ""))), (.c (.str (PySem.Str.ofString "yes"))), .mtd, (.tup []), (.slcH (.v 1) (.c (.int 1))), (.blt .list [(.v 1)]), (.bin .add (.v 1) (.tup [(.c (.int 0))])), (.bin .add (.tup [(.lst [(.sub (.v 1) (.c (.int 0)))])]) (.slcL (.v 1) (.c (.int 1)))), (.bin .add (.tup [(.c (.str (PySem.Str.ofString "none such")))]) (.slcL (.v 1) (.c (.int 1)))), (.c (.int 7))]), .set 3 (.call 13 [(.v 0), (.c (.int 9))]), .ite (.cmp .gt (.v 3) (.c (.int 4))) [.ret (.call 19 [(.v 0), (.v 1)])] [], .ret (.ite (.cmp .eq (.v 3) (.c (.int 0))) (.sub (.v 2) (.call 13 [(.v 0), (.blt .len [(.v 2)])])) (.call 15 [(.v 0), (.v 1)]))]⟩
def d21 : Fd := ⟨"_law_gcd", 2, 2, [.whl (.slot 1) (.cmp .ne (.v 1) (.c (.int 0))) [.par2 0 1 (.v 1) (.bin .mod (.v 0) (.v 1))], .ret (.ite (.cmp .gt (.v 0) (.c (.int 0))) (.v 0) (.bin .sub (.c (.int 0)) (.v 0)))]⟩
def d22 : Fd := ⟨"_law_of", 2, 3, [.set 2 (.call 21 [(.v 0), (.v 1)]), .set 2 (.ite (.cmp .gt (.v 1) (.c (.int 0))) (.v 2) (.bin .sub (.c (.int 0)) (.v 2))), .ret (.tup [(.bin .fdiv (.v 0) (.v 2)), (.bin .fdiv (.v 1) (.v 2))])]⟩
def d23 : Fd := ⟨"_law_less", 2, 2, [.ret (.cmp .lt (.bin .mul (.sub (.v 0) (.c (.int 0))) (.sub (.v 1) (.c (.int 1)))) (.bin .mul (.sub (.v 1) (.c (.int 0))) (.sub (.v 0) (.c (.int 1)))))]⟩
def d24 : Fd := ⟨"_law_fraction", 1, 1, [.ret (.call 22 [(.bin .sub (.call 13 [(.v 0), (.c (.int 13))]) (.c (.int 4))), (.bin .add (.c (.int 1)) (.call 13 [(.v 0), (.c (.int 3))]))])]⟩
def d25 : Fd := ⟨"_law_accepts", 3, 8, [.set 3 (.lst []), .for (.v 4) (.val (.v 0)) [.set 3 (.bin .add (.v 3) (.lc [7] (.v 7) (.val (.v 1)) [] (.tup [(.v 4), (.v 7)])))], .set 5 (.blt .len [(.lc [4, 7] (.t [(.v 4), (.v 7)]) (.val (.v 3)) [(.call 23 [(.v 7), (.v 4)])] (.c (.int 1)))]), .set 6 (.blt .len [(.lc [4, 7] (.t [(.v 4), (.v 7)]) (.val (.v 3)) [(.call 23 [(.v 4), (.v 7)])] (.c (.int 1)))]), .ret (.call 14 [(.v 2), (.tup [(.c (.str (PySem.Str.ofString "beats"))), (.call 22 [(.v 5), (.blt .len [(.v 3)])]), (.call 22 [(.v 6), (.blt .len [(.v 3)])])])])]⟩
def d26 : Fd := ⟨"_law_unfit", 2, 4, [.for (.v 2) (.val (.lst [(.c (.bool false)), (.c (.bool true))])) [.tryA [.ite (.v 2) [.ex (.call 12 [(.v 0), (.v 1), (.c .none)])] [.ex (.call 11 [(.v 0), (.v 1)])], .ret (.c (.bool false))] 0 3], .ret (.c (.bool true))]⟩
def d27 : Fd := ⟨"_law_neighbour", 2, 6, [.ite (.isi (.v 1) [.bool, .str] false) [.ret (.v 1)] [], .set 2 (.sub (.lst [(.c (.int 1)), (.neg (.c (.int 1)))]) (.call 13 [(.v 0), (.c (.int 2))])), .ite (.isi (.v 1) [.int] true) [.ret (.bin .add (.v 1) (.v 2))] [], .ite (.ors [(.not (.isi (.v 1) [.tuple] true)), (.cmp .eq (.v 1) (.tup []))]) [.ret (.v 1)] [], .set 3 (.call 13 [(.v 0), (.blt .len [(.v 1)])]), .set 4 (.sub (.v 1) (.v 3)), .ite (.ands [(.isi (.v 4) [.int] true), (.cmp .gt (.call 13 [(.v 0), (.c (.int 3))]) (.c (.int 0)))]) [.ret (.bin .add (.bin .add (.slcH (.v 1) (.v 3)) (.tup [(.bin .add (.v 4) (.v 2))])) (.slcL (.v 1) (.bin .add (.v 3) (.c (.int 1)))))] [], .ite (.ands [(.isi (.v 4) [.tuple] true), (.cmp .eq (.blt .len [(.v 4)]) (.c (.int 2))), (.cmp .eq (.lc [5] (.v 5) (.val (.v 4)) [(.not (.isi (.v 5) [.int] true))] (.v 5)) (.lst [])), (.cmp .gt (.sub (.v 4) (.c (.int 1))) (.c (.int 0))), (.cmp .gt (.call 13 [(.v 0), (.c (.int 3))]) (.c (.int 0)))]) [.ret (.bin .add (.bin .add (.slcH (.v 1) (.v 3)) (.tup [(.tup [(.bin .add (.sub (.v 4) (.c (.int 0))) (.bin .mul (.v 2) (.sub (.v 4) (.c (.int 1))))), (.sub (.v 4) (.c (.int 1)))])])) (.slcL (.v 1) (.bin .add (.v 3) (.c (.int 1)))))] [], .ret (.bin .add (.slcH (.v 1) (.v 3)) (.slcL (.v 1) (.bin .add (.v 3) (.c (.int 1)))))]⟩
def d28 : Fd := ⟨"_law_told_near", 3, 6, [.own 3 (.lst [(.v 1), (.v 2)]), .set 4 (.call 13 [(.v 0), (.c (.int 2))]), .sit 3 (.v 4) (.call 27 [(.v 0), (.sub (.v 3) (.v 4))]), .frz 3, .tryB [.ret (.call 11 [(.sub (.v 3) (.c (.int 0))), (.sub (.v 3) (.c (.int 1)))])] 0 1 5]⟩
def Δ : List Fd := [d0, d1, d2, d3, d4, d5, d6, d7, d8, d9, d10, d11, d12, d13, d14, d15, d16, d17, d18, d19, d20, d21, d22, d23, d24, d25, d26, d27, d28]
def lawRest : List Sm := [.set 2 (.lst []), .for (.v 3) (.rng1 (.c (.int 3))) [.set 4 (.blt .tuple [(.lc [8] (.v 8) (.rng1 (.bin .add (.c (.int 1)) (.call 13 [(.v 1), (.c (.int 4))]))) [] (.call 24 [(.v 1)]))]), .set 5 (.blt .tuple [(.lc [8] (.v 8) (.rng1 (.bin .add (.c (.int 1)) (.call 13 [(.v 1), (.c (.int 4))]))) [] (.call 24 [(.v 1)]))]), .set 6 (.call 11 [(.v 4), (.v 5)]), .set 7 (.call 28 [(.v 1), (.v 4), (.v 5)]), .ite (.ors [(.not (.call 25 [(.v 4), (.v 5), (.v 6)])), (.cmp .isnt (.call 12 [(.v 4), (.v 5), (.v 6)]) (.c (.bool true)))]) [.ret (.c (.bool false))] [], .ite (.ors [(.not (.call 26 [(.tup []), (.v 5)])), (.not (.call 26 [(.v 4), (.tup [])]))]) [.ret (.c (.bool false))] [], .set 2 (.bin .add (.slcL (.v 2) (.neg (.c (.int 3)))) (.lst [(.v 6), (.v 7)])), .for (.v 8) (.rng1 (.bin .add (.c (.int 8)) (.blt .len [(.v 2)]))) [.set 9 (.ite (.cmp .lt (.v 8) (.c (.int 8))) (.call 20 [(.v 1), (.v 6)]) (.sub (.v 2) (.bin .sub (.v 8) (.c (.int 8))))), .ite (.not (.call 14 [(.call 12 [(.v 4), (.v 5), (.v 9)]), (.call 25 [(.v 4), (.v 5), (.v 9)])])) [.ret (.c (.bool false))] []]], .ret (.c (.bool true))]
def Γ : Gl0 := ⟨Δ, [1], false⟩
abbrev lawJ : Nat := 1
abbrev lawN : Nat := 10
def top (i : Nat) : Stmt := PySem.Challenge.pw_chancewhole_k58_dice_that_beat.main.body.getD i (.Pass ⟨0, 0, 0, 0⟩)
abbrev s0 : Stmt := top 5
abbrev N0 : List Str := ["value"]
theorem sc0 : FnScope N0 ["value"] (defScope s0) := ⟨rfl, rfl, rfl, by decide +kernel, rfl, by decide +kernel, by decide +kernel⟩
theorem m0 : mSs Γ N0 (defScope s0) d0.body (defBody s0) = true := by decide +kernel
abbrev s1 : Stmt := top 6
abbrev N1 : List Str := ["told", "word", "count"]
theorem sc1 : FnScope N1 ["told", "word", "count"] (defScope s1) := ⟨rfl, rfl, rfl, by decide +kernel, rfl, by decide +kernel, by decide +kernel⟩
theorem m1 : mSs Γ N1 (defScope s1) d1.body (defBody s1) = true := by decide +kernel
abbrev s2 : Stmt := top 9
abbrev N2 : List Str := ["one", "other"]
theorem sc2 : FnScope N2 ["one", "other"] (defScope s2) := ⟨rfl, rfl, rfl, by decide +kernel, rfl, by decide +kernel, by decide +kernel⟩
theorem m2 : mSs Γ N2 (defScope s2) d2.body (defBody s2) = true := by decide +kernel
abbrev s3 : Stmt := top 10
abbrev N3 : List Str := ["number", "part", "common"]
theorem sc3 : FnScope N3 ["number", "part"] (defScope s3) := ⟨rfl, rfl, rfl, by decide +kernel, rfl, by decide +kernel, by decide +kernel⟩
theorem m3 : mSs Γ N3 (defScope s3) d3.body (defBody s3) = true := by decide +kernel
abbrev s4 : Stmt := top 11
abbrev N4 : List Str := ["one", "other"]
theorem sc4 : FnScope N4 ["one", "other"] (defScope s4) := ⟨rfl, rfl, rfl, by decide +kernel, rfl, by decide +kernel, by decide +kernel⟩
theorem m4 : mSs Γ N4 (defScope s4) d4.body (defBody s4) = true := by decide +kernel
abbrev s5 : Stmt := top 12
abbrev N5 : List Str := ["one", "other"]
theorem sc5 : FnScope N5 ["one", "other"] (defScope s5) := ⟨rfl, rfl, rfl, by decide +kernel, rfl, by decide +kernel, by decide +kernel⟩
theorem m5 : mSs Γ N5 (defScope s5) d5.body (defBody s5) = true := by decide +kernel
abbrev s6 : Stmt := top 13
abbrev N6 : List Str := ["one", "other"]
theorem sc6 : FnScope N6 ["one", "other"] (defScope s6) := ⟨rfl, rfl, rfl, by decide +kernel, rfl, by decide +kernel, by decide +kernel⟩
theorem m6 : mSs Γ N6 (defScope s6) d6.body (defBody s6) = true := by decide +kernel
abbrev s7 : Stmt := top 14
abbrev N7 : List Str := ["number"]
theorem sc7 : FnScope N7 ["number"] (defScope s7) := ⟨rfl, rfl, rfl, by decide +kernel, rfl, by decide +kernel, by decide +kernel⟩
theorem m7 : mSs Γ N7 (defScope s7) d7.body (defBody s7) = true := by decide +kernel
abbrev s8 : Stmt := top 15
abbrev N8 : List Str := ["value"]
theorem sc8 : FnScope N8 ["value"] (defScope s8) := ⟨rfl, rfl, rfl, by decide +kernel, rfl, by decide +kernel, by decide +kernel⟩
theorem m8 : mSs Γ N8 (defScope s8) d8.body (defBody s8) = true := by decide +kernel
abbrev s9 : Stmt := top 16
abbrev N9 : List Str := ["value", "count", "part"]
theorem sc9 : FnScope N9 ["value", "count"] (defScope s9) := ⟨rfl, rfl, rfl, by decide +kernel, rfl, by decide +kernel, by decide +kernel⟩
theorem m9 : mSs Γ N9 (defScope s9) d9.body (defBody s9) = true := by decide +kernel
abbrev s10 : Stmt := top 18
abbrev N10 : List Str := ["row", "count"]
theorem sc10 : FnScope N10 ["row", "count"] (defScope s10) := ⟨rfl, rfl, rfl, by decide +kernel, rfl, by decide +kernel, by decide +kernel⟩
theorem m10 : mSs Γ N10 (defScope s10) d10.body (defBody s10) = true := by decide +kernel
abbrev s11 : Stmt := top 19
abbrev N11 : List Str := ["row", "other", "part", "more", "fewer", "one", "two"]
theorem sc11 : FnScope N11 ["row", "other"] (defScope s11) := ⟨rfl, rfl, rfl, by decide +kernel, rfl, by decide +kernel, by decide +kernel⟩
theorem m11 : mSs Γ N11 (defScope s11) d11.body (defBody s11) = true := by decide +kernel
abbrev s12 : Stmt := top 20
abbrev N12 : List Str := ["row", "other", "told", "due"]
theorem sc12 : FnScope N12 ["row", "other", "told"] (defScope s12) := ⟨rfl, rfl, rfl, by decide +kernel, rfl, by decide +kernel, by decide +kernel⟩
theorem m12 : mSs Γ N12 (defScope s12) d12.body (defBody s12) = true := by decide +kernel
abbrev s13 : Stmt := top 22
abbrev N13 : List Str := ["state", "limit", "cell", "value"]
theorem sc13 : FnScope N13 ["state", "limit"] (defScope s13) := ⟨rfl, rfl, rfl, by decide +kernel, rfl, by decide +kernel, by decide +kernel⟩
theorem m13 : mSs Γ N13 (defScope s13) d13.body (defBody s13) = true := by decide +kernel
abbrev s14 : Stmt := top 23
abbrev N14 : List Str := ["actual", "expected", "k"]
theorem sc14 : FnScope N14 ["actual", "expected"] (defScope s14) := ⟨rfl, rfl, rfl, by decide +kernel, rfl, by decide +kernel, by decide +kernel⟩
theorem m14 : mSs Γ N14 (defScope s14) d14.body (defBody s14) = true := by decide +kernel
abbrev s15 : Stmt := top 24
abbrev N15 : List Str := ["state", "value", "k", "j", "more", "others", "turn"]
theorem sc15 : FnScope N15 ["state", "value"] (defScope s15) := ⟨rfl, rfl, rfl, by decide +kernel, rfl, by decide +kernel, by decide +kernel⟩
theorem m15 : mSs Γ N15 (defScope s15) d15.body (defBody s15) = true := by decide +kernel
abbrev s16 : Stmt := top 25
abbrev N16 : List Str := ["value", "found", "part", "number"]
theorem sc16 : FnScope N16 ["value"] (defScope s16) := ⟨rfl, rfl, rfl, by decide +kernel, rfl, by decide +kernel, by decide +kernel⟩
theorem m16 : mSs Γ N16 (defScope s16) d16.body (defBody s16) = true := by decide +kernel
abbrev s17 : Stmt := top 26
abbrev N17 : List Str := ["value", "one", "other", "part"]
theorem sc17 : FnScope N17 ["value", "one", "other"] (defScope s17) := ⟨rfl, rfl, rfl, by decide +kernel, rfl, by decide +kernel, by decide +kernel⟩
theorem m17 : mSs Γ N17 (defScope s17) d17.body (defBody s17) = true := by decide +kernel
abbrev s18 : Stmt := top 27
abbrev N18 : List Str := ["state", "value", "k", "at", "ways", "part"]
theorem sc18 : FnScope N18 ["state", "value"] (defScope s18) := ⟨rfl, rfl, rfl, by decide +kernel, rfl, by decide +kernel, by decide +kernel⟩
theorem m18 : mSs Γ N18 (defScope s18) d18.body (defBody s18) = true := by decide +kernel
abbrev s19 : Stmt := top 28
abbrev N19 : List Str := ["state", "told", "numbers", "pick", "one", "other", "k", "j", "part"]
theorem sc19 : FnScope N19 ["state", "told"] (defScope s19) := ⟨rfl, rfl, rfl, by decide +kernel, rfl, by decide +kernel, by decide +kernel⟩
theorem m19 : mSs Γ N19 (defScope s19) d19.body (defBody s19) = true := by decide +kernel
abbrev s20 : Stmt := top 29
abbrev N20 : List Str := ["state", "told", "odd", "pick"]
theorem sc20 : FnScope N20 ["state", "told"] (defScope s20) := ⟨rfl, rfl, rfl, by decide +kernel, rfl, by decide +kernel, by decide +kernel⟩
theorem m20 : mSs Γ N20 (defScope s20) d20.body (defBody s20) = true := by decide +kernel
abbrev s21 : Stmt := top 30
abbrev N21 : List Str := ["a", "b"]
theorem sc21 : FnScope N21 ["a", "b"] (defScope s21) := ⟨rfl, rfl, rfl, by decide +kernel, rfl, by decide +kernel, by decide +kernel⟩
theorem m21 : mSs Γ N21 (defScope s21) d21.body (defBody s21) = true := by decide +kernel
abbrev s22 : Stmt := top 31
abbrev N22 : List Str := ["p", "q", "common"]
theorem sc22 : FnScope N22 ["p", "q"] (defScope s22) := ⟨rfl, rfl, rfl, by decide +kernel, rfl, by decide +kernel, by decide +kernel⟩
theorem m22 : mSs Γ N22 (defScope s22) d22.body (defBody s22) = true := by decide +kernel
abbrev s23 : Stmt := top 32
abbrev N23 : List Str := ["a", "b"]
theorem sc23 : FnScope N23 ["a", "b"] (defScope s23) := ⟨rfl, rfl, rfl, by decide +kernel, rfl, by decide +kernel, by decide +kernel⟩
theorem m23 : mSs Γ N23 (defScope s23) d23.body (defBody s23) = true := by decide +kernel
abbrev s24 : Stmt := top 33
abbrev N24 : List Str := ["state"]
theorem sc24 : FnScope N24 ["state"] (defScope s24) := ⟨rfl, rfl, rfl, by decide +kernel, rfl, by decide +kernel, by decide +kernel⟩
theorem m24 : mSs Γ N24 (defScope s24) d24.body (defBody s24) = true := by decide +kernel
abbrev s25 : Stmt := top 34
abbrev N25 : List Str := ["row", "other", "told", "pairs", "x", "more", "fewer", "y"]
theorem sc25 : FnScope N25 ["row", "other", "told"] (defScope s25) := ⟨rfl, rfl, rfl, by decide +kernel, rfl, by decide +kernel, by decide +kernel⟩
theorem m25 : mSs Γ N25 (defScope s25) d25.body (defBody s25) = true := by decide +kernel
abbrev s26 : Stmt := top 35
abbrev N26 : List Str := ["row", "other", "judged", "error"]
theorem sc26 : FnScope N26 ["row", "other"] (defScope s26) := ⟨rfl, rfl, rfl, by decide +kernel, rfl, by decide +kernel, by decide +kernel⟩
theorem m26 : mSs Γ N26 (defScope s26) d26.body (defBody s26) = true := by decide +kernel
abbrev s27 : Stmt := top 36
abbrev N27 : List Str := ["state", "value", "step", "k", "part", "x"]
theorem sc27 : FnScope N27 ["state", "value"] (defScope s27) := ⟨rfl, rfl, rfl, by decide +kernel, rfl, by decide +kernel, by decide +kernel⟩
theorem m27 : mSs Γ N27 (defScope s27) d27.body (defBody s27) = true := by decide +kernel
abbrev s28 : Stmt := top 37
abbrev N28 : List Str := ["state", "row", "other", "things", "pick", "error"]
theorem sc28 : FnScope N28 ["state", "row", "other"] (defScope s28) := ⟨rfl, rfl, rfl, by decide +kernel, rfl, by decide +kernel, by decide +kernel⟩
theorem m28 : mSs Γ N28 (defScope s28) d28.body (defBody s28) = true := by decide +kernel
abbrev sL : Stmt := top 38
abbrev NL : List Str := ["script", "state", "seen", "turn", "row", "other", "told", "near", "k", "asked"]
theorem scL : FnScope NL ["script"] (defScope sL) := ⟨rfl, rfl, rfl, by decide +kernel, rfl, by decide +kernel, by decide +kernel⟩
theorem mL : mLaw Γ NL (defScope sL) 1 lawRest (defBody sL) = true := by decide +kernel
def I : Ix := { is_whole := 0, is_told := 1, divisor := 2, ratio := 3, mul := 4, div := 5, less := 6, whole := 7, is_fraction := 8, are_fractions := 9, law_next := 13, law_same := 14, law_changed := 15, law_ints := 16, law_exchanged := 17, law_cut := 18, law_turned_about := 19, law_odd := 20, law_gcd := 21, law_of := 22, law_less := 23, law_fraction := 24, law_neighbour := 27 }
theorem hNext : Δ[I.law_next]? = some (s_law_next I) := rfl
theorem hSame : Δ[I.law_same]? = some (s_law_same I) := rfl
theorem hLess : Δ[I.less]? = some (s_less I) := rfl
theorem hLLess : Δ[I.law_less]? = some (s_law_less I) := rfl
theorem hRatio : Δ[I.ratio]? = some (s_ratio I) := rfl
theorem hDivisor : Δ[I.divisor]? = some (s_divisor I) := rfl
theorem hMul : Δ[I.mul]? = some (s_mul I) := rfl
theorem hDiv : Δ[I.div]? = some (s_div I) := rfl
theorem hWhole : Δ[I.whole]? = some (s_whole I) := rfl
theorem hOf : Δ[I.law_of]? = some (s_law_of I) := rfl
theorem hGcd : Δ[I.law_gcd]? = some (s_law_gcd I) := rfl
theorem w_ex {cf : CallF} {B : Lent} {ρ : Rho} {S S' : Sta} {x : Ex} {v : EV} {r : List Sm} (h : eE cf B x ρ S = .ok v S') : xSs cf B (.ex x :: r) ρ S = xSs cf B r ρ S' := by
  simp only [xv_cons, xv_ex, h, ev_ook, ev_snx]
section
variable {n : Nat} {B : Lent} {S : Sta} {k : Int} {xs ys : List D}
theorem check_ok (h0 : xs ≠ []) (h1 : xs.length ≤ 8) : run Δ (n + 1) 10 [.dat (.tuple xs), .dat (.int 1)] B S = .ok .none S := by
  rw [run_at (d := d10) rfl rfl]
  have e : xs.isEmpty = false := by cases xs with
    | nil => exact absurd rfl h0
    | cons _ _ => rfl
  have h2 : ¬ (8 : Int) < xs.length := by omega
  simp [d10, e, h2]
theorem check_nil : run Δ (n + 1) 10 [.dat (.tuple []), .dat (.int 1)] B S = .exc 0 S := rfl
theorem check_big (h0 : xs ≠ []) (h1 : 8 < xs.length) : run Δ (n + 1) 10 [.dat (.tuple xs), .dat (.int 1)] B S = .exc 1 S := by
  rw [run_at (d := d10) rfl rfl]
  have e : xs.isEmpty = false := by cases xs with
    | nil => exact absurd rfl h0
    | cons _ _ => rfl
  have h2 : (8 : Int) < xs.length := by omega
  simp [d10, e, h2]
/-- is the first below the second -/
def lsD : D → D → Bool
  | .tuple [.int a, .int b], .tuple [.int c, .int d] => decide (a * d < c * b)
  | _, _ => false
def cnt (f : D → D → Bool) (xs ys : List D) : Nat := (xs.map fun x => (ys.filter (f x)).length).sum
theorem fit_k {i : Int} (h1 : -1000000 ≤ i) (h2 : i ≤ 1000000) : fit i = true := fit_small (Nat.lt_of_lt_of_le (show i.natAbs < 2 ^ 20 by omega) (by decide))
theorem less_fr (hk : k ≤ 1000000) {x y : D} (hx : frP k x) (hy : frP k y) : run Δ (n + 1) 6 [.dat x, .dat y] B S = .ok (.bool (lsD x y)) S := by
  obtain ⟨p, q, rfl, a1, a2, a3, a4⟩ := hx
  obtain ⟨r, s, rfl, b1, b2, b3, b4⟩ := hy
  exact less_run (I := I) hLess (fit_k (by omega) (by omega)) (fit_k (by omega) (by omega)) (fit_k (by omega) (by omega)) (fit_k (by omega) (by omega))
theorem lless_fr (hk : k ≤ 1000000) {x y : D} (hx : frP k x) (hy : frP k y) : run Δ (n + 1) 23 [.dat x, .dat y] B S = .ok (.bool (lsD x y)) S := by
  obtain ⟨p, q, rfl, a1, a2, a3, a4⟩ := hx
  obtain ⟨r, s, rfl, b1, b2, b3, b4⟩ := hy
  exact lless_run (I := I) hLLess (fit_k (by omega) (by omega)) (fit_k (by omega) (by omega)) (fit_k (by omega) (by omega)) (fit_k (by omega) (by omega))
theorem rep_add (a b : Nat) : List.replicate a (PySem.PyData.int 1) ++ List.replicate b (.int 1) = List.replicate (a + b) (.int 1) := by rw [List.replicate_append_replicate]
/-- the count of pairs, in the program's two ways -/
theorem lcF_cnt {cf : CallF} {c : Ex} {f : D → D → Bool} {ρ : Rho} (hl : ρ.length = 7) (hy : ∀ ρ' : Rho, (∃ a b, ρ' = (ρ.set 5 a).set 6 b) → ∀ S, eSrc cf B true (.val (.v 1)) ρ' S = .ok ys S)
    (hc : ∀ x ∈ xs, ∀ y ∈ ys, ∀ o : Option EV, eT cf B c (((ρ.set 5 (some (.dat x))).set 6 none).set 6 (some (.dat y))) S = .ok (f x y) S) (h6 : ρ[6]? = some none) : lcF cf B [6] (.v 5) [] (.v 6) (.val (.v 1)) [c] (.c (.int 1)) ρ xs S = .ok (List.replicate (cnt f xs ys) (.int 1)) S := by
  induction xs with
  | nil => rfl
  | cons x xs ih =>
    have inner : ∀ zs : List D, (∀ y ∈ zs, y ∈ ys) → lcR cf B (.v 6) [c] (.c (.int 1)) ((ρ.set 5 (some (.dat x))).set 6 none) zs S = .ok (List.replicate (zs.filter (f x)).length (.int 1)) S := by
      intro zs
      induction zs with
      | nil => exact fun _ => rfl
      | cons z zs ih2 =>
        intro hz
        have t := hc x List.mem_cons_self z (hz z List.mem_cons_self) none
        have t' : eCs cf B [c] (((ρ.set 5 (some (.dat x))).set 6 none).set 6 (some (.dat z))) S = .ok (f x z) S := t
        have i2 := ih2 fun y hy => hz y (List.mem_cons_of_mem _ hy)
        rw [lcR_cons]
        simp only [bp_v, t', ev_bok]
        cases hf : f x z with
        | true =>
          simp only [if_true, ev_c, ev_bok, i2, List.filter_cons, hf, List.length_cons]
          rfl
        | false => simp only [Bool.false_eq_true, if_false, List.filter_cons, hf, i2]
    have e5 : (ρ.set 5 (some (.dat x))) = (ρ.set 5 (some (.dat x))).set 6 none := by
      apply List.ext_getElem?
      intro i
      by_cases h : 6 = i
      · subst h
        rw [List.getElem?_set_self (by simp [hl]), List.getElem?_set_ne (by omega), h6]
      · rw [List.getElem?_set_ne h]
    have src := hy ((ρ.set 5 (some (.dat x))).set 6 none) ⟨_, _, rfl⟩ S
    rw [← e5] at src
    rw [lcF_cons]
    simp only [bp_v, ev_cnil, ev_bok, if_true, lcT, src, wipeR, inner ys fun _ h => h, ih (fun x hx y hy => hc x (List.mem_cons_of_mem _ hx) y hy)]
    rw [rep_add]
    rfl
abbrev rho7 (xs ys : List D) (p3 p4 p5 : Option EV) : Rho := [some (.dat (.tuple xs)), some (.dat (.tuple ys)), p3, p4, p5, none, none]
theorem cnt_le (f : D → D → Bool) : cnt f xs ys ≤ xs.length * ys.length := by
  unfold cnt
  induction xs with
  | nil => simp
  | cons x xs ih =>
    have := List.length_filter_le (f x) ys
    simp only [List.map_cons, List.sum_cons, List.length_cons, Nat.succ_mul]
    omega
theorem cntE (hk : k ≤ 1000000) (hx : ∀ d ∈ xs, frP k d) (hy : ∀ d ∈ ys, frP k d) {m : Nat} {p3 p4 p5 : Option EV} (hb : xs.length * ys.length ≤ 1000000) :
    eE (run Δ (m + 1)) B (.blt .len [(.lc2 [5, 6] [6] (.v 5) (.val (.v 0)) [] (.v 6) (.val (.v 1)) [(.call 6 [(.v 6), (.v 5)])] (.c (.int 1)))]) (rho7 xs ys p3 p4 p5) S = .ok (.dat (.int (cnt (fun x y => lsD y x) xs ys : Nat))) S ∧
    eE (run Δ (m + 1)) B (.blt .len [(.lc2 [5, 6] [6] (.v 5) (.val (.v 0)) [] (.v 6) (.val (.v 1)) [(.call 6 [(.v 5), (.v 6)])] (.c (.int 1)))]) (rho7 xs ys p3 p4 p5) S = .ok (.dat (.int (cnt (fun x y => lsD x y) xs ys : Nat))) S := by
  have src : ∀ ρ' : Rho, (∃ a b, ρ' = ((rho7 xs ys p3 p4 p5).set 5 a).set 6 b) → ∀ S, eSrc (run Δ (m + 1)) B true (.val (.v 1)) ρ' S = .ok ys S := by
    rintro ρ' ⟨a, b, rfl⟩ S
    rfl
  have cb : ∀ f : D → D → Bool, cnt f xs ys ≤ 1000000 := fun f => Nat.le_trans (cnt_le f) hb
  have l1 := lcF_cnt (xs := xs) (ys := ys) (S := S) (B := B) (cf := run Δ (m + 1)) (c := .call 6 [(.v 6), (.v 5)]) (f := fun x y => lsD y x) (ρ := rho7 xs ys p3 p4 p5) rfl src (fun x hx' y hy' _ => by
    unfold eT
    simp [less_fr hk (hy y hy') (hx x hx')]) rfl
  have l2 := lcF_cnt (xs := xs) (ys := ys) (S := S) (B := B) (cf := run Δ (m + 1)) (c := .call 6 [(.v 5), (.v 6)]) (f := fun x y => lsD x y) (ρ := rho7 xs ys p3 p4 p5) rfl src (fun x hx' y hy' _ => by
    unfold eT
    simp [less_fr hk (hx x hx') (hy y hy')]) rfl
  have sv : eSrc (run Δ (m + 1)) B false (.val (.v 0)) (rho7 xs ys p3 p4 p5) S = .ok xs S := rfl
  have wr : wipeR (rho7 xs ys p3 p4 p5) [5, 6] = rho7 xs ys p3 p4 p5 := rfl
  have b1 := cb (fun x y => lsD y x)
  have b2 := cb (fun x y => lsD x y)
  constructor
  · simp only [ev_blt, ev_cons, ev_nil, ev_lc2, sv, ev_bok, wr, l1, ev_str, lenOk_eq, List.length_replicate, b1, decide_true, if_true, vv_lenl, ev_ofs]
  · simp only [ev_blt, ev_cons, ev_nil, ev_lc2, sv, ev_bok, wr, l2, ev_str, lenOk_eq, List.length_replicate, b2, decide_true, if_true, vv_lenl, ev_ofs]
/-- what is due -/
def due (xs ys : List D) : D := .tuple [.str (PySem.Str.ofString "beats"), rt (cnt (fun x y => lsD y x) xs ys : Nat) ((xs.length * ys.length : Nat) : Int), rt (cnt (fun x y => lsD x y) xs ys : Nat) ((xs.length * ys.length : Nat) : Int)]
theorem beats_ok (hk : k ≤ 1000000) (hx : ∀ d ∈ xs, frP k d) (hy : ∀ d ∈ ys, frP k d) (x0 : xs ≠ []) (y0 : ys ≠ []) (x1 : xs.length ≤ 8) (y1 : ys.length ≤ 8) : run Δ (n + 5) 11 [.dat (.tuple xs), .dat (.tuple ys)] B S = .ok (due xs ys) S := by
  rw [run_at (d := d11) rfl rfl]
  have hb : xs.length * ys.length ≤ 64 := Nat.mul_le_mul x1 y1
  have hp : 0 < xs.length * ys.length := Nat.mul_pos (List.length_pos_iff.mpr x0) (List.length_pos_iff.mpr y0)
  have c1 := cnt_le (xs := xs) (ys := ys) (fun x y => lsD y x)
  have c2 := cnt_le (xs := xs) (ys := ys) (fun x y => lsD x y)
  show (xSs (run Δ (n + 4)) B d11.body (rho7 xs ys none none none) S).fin = _
  generalize hL : xs.length * ys.length = L at hb hp c1 c2
  have fx : fit ((xs.length : Nat) : Int) = true := fit_k (by omega) (by omega)
  have fy : fit ((ys.length : Nat) : Int) = true := fit_k (by omega) (by omega)
  have hLi : ((xs.length : Nat) : Int) * ((ys.length : Nat) : Int) = (L : Nat) := by rw [← hL]; push_cast; rfl
  have bl : ∀ i : Int, -1000000 ≤ i → i ≤ 1000000 → i.natAbs < 2 ^ 8000 := fun i a b => Nat.lt_of_lt_of_le (show i.natAbs < 2 ^ 20 by omega) (Nat.pow_le_pow_right (by omega) (by omega))
  have f1 : fit 1 = true := fit_k (by omega) (by omega)
  have fL : fit (L : Int) = true := fit_k (by omega) (by omega)
  -- the part
  have dv := div_run (I := I) (n := n + 1) (B := []) (S := S) hDiv hRatio hDivisor (a := 1) (b := 1) (c := (L : Int)) (d := 1) f1 f1 fL f1 (by omega) (bl _ (by omega) (by omega))
  have wr := fun (m : Nat) (a : Int) => whole_run (I := I) (n := m) (B := []) (S := S) hWhole (a := a)
  have part : rt (1 * 1) (1 * (L : Int)) = .tuple [.int 1, .int L] := by
    have g : Int.gcd 1 (L : Int) = 1 := by simp
    unfold rt cm
    rw [if_neg (by omega)]
    simp only [Int.one_mul, g]
    simp
  rw [part] at dv
  have e1 : eE (run Δ (n + 4)) B (.call 5 [(.g 1), (.call 7 [(.bin .mul (.blt .len [(.v 0)]) (.blt .len [(.v 1)]))])]) (rho7 xs ys none none none) S = .ok (.dat (.tuple [.int 1, .int L])) S := by
    have w7 := wr (n + 3) (L : Int)
    have dv' : run Δ (n + 4) 5 [.dat (.tuple [.int 1, .int 1]), .dat (.tuple [.int L, .int 1])] [] S = .ok (.tuple [.int 1, .int L]) S := dv
    have w7' : run Δ (n + 4) 7 [.dat (.int L)] [] S = .ok (.tuple [.int L, .int 1]) S := w7
    have gv : gval 1 = .tuple [.int 1, .int 1] := rfl
    simp only [ev_call, ev_cons, ev_nil, ev_g, gv, ev_bok, ev_bin, ev_blt, ev_v0, ev_vs, vv_len, ev_ofs, vv_mul fx fy, hLi, vv_pd, vv_p0, Option.map_some, w7', dv']
  obtain ⟨e2, _⟩ := cntE (m := n + 3) (S := S) (B := B) hk hx hy (p3 := some (.dat (.tuple [.int 1, .int L]))) (p4 := none) (p5 := none) (by omega)
  obtain ⟨_, e3⟩ := cntE (m := n + 3) (S := S) (B := B) hk hx hy (p3 := some (.dat (.tuple [.int 1, .int L]))) (p4 := some (.dat (.int (cnt (fun x y => lsD y x) xs ys : Nat)))) (p5 := none) (by omega)
  have ck := fun (zs : List D) (h0 : zs ≠ []) (h1 : zs.length ≤ 8) => check_ok (n := n + 3) (B := []) (S := S) h0 h1
  have x1' : eE (run Δ (n + 4)) B (.call 10 [(.v 0), (.c (.int 1))]) (rho7 xs ys none none none) S = .ok (.dat .none) S := by
    have := ck xs x0 x1
    simp only [ev_call, ev_cons, ev_nil, ev_v0, ev_bok, ev_c, vv_pd, vv_p0, Option.map_some, ev_ofs, this]
  have x2' : eE (run Δ (n + 4)) B (.call 10 [(.v 1), (.c (.int 1))]) (rho7 xs ys none none none) S = .ok (.dat .none) S := by
    have := ck ys y0 y1
    simp only [ev_call, ev_cons, ev_nil, ev_v0, ev_vs, ev_bok, ev_c, vv_pd, vv_p0, Option.map_some, ev_ofs, this]
  have mm : ∀ c : Nat, c ≤ L → run Δ (n + 4) 4 [.dat (.tuple [.int (c : Nat), .int 1]), .dat (.tuple [.int 1, .int L])] [] S = .ok (rt c L) S := fun c hc => by
    have := mul_run (I := I) (n := n + 1) (B := []) (S := S) hMul hRatio hDivisor (a := (c : Int)) (b := 1) (c := 1) (d := (L : Int)) (fit_k (by omega) (by omega)) f1 f1 fL (by omega) (bl _ (by omega) (by omega))
    rw [Int.mul_one, Int.one_mul] at this
    exact this
  have w7 : ∀ c : Int, run Δ (n + 4) 7 [.dat (.int c)] [] S = .ok (.tuple [.int c, .int 1]) S := fun c => wr (n + 3) c
  have m1 := mm _ c1
  have m2 := mm _ c2
  rw [d11]
  show (xSs (run Δ (n + 4)) B (.ex _ :: .ex _ :: .set 2 _ :: .set 3 _ :: .set 4 _ :: [.ret _]) _ S).fin = _
  rw [w_ex x1', w_ex x2', w_set e1]
  show (xSs (run Δ (n + 4)) B (.set 3 _ :: .set 4 _ :: [.ret _]) (rho7 xs ys (some (.dat (.tuple [.int 1, .int L]))) none none) S).fin = _
  rw [w_set e2]
  show (xSs (run Δ (n + 4)) B (.set 4 _ :: [.ret _]) (rho7 xs ys (some (.dat (.tuple [.int 1, .int L]))) (some (.dat (.int (cnt (fun x y => lsD y x) xs ys : Nat)))) none) S).fin = _
  rw [w_set e3]
  refine at_app (w_ret ?_)
  simp only [List.set_cons_succ, List.set_cons_zero, ev_tup, ev_cons, ev_nil, ev_c, ev_bok, ev_call, ev_v0, ev_vs, vv_pd, vv_p0, Option.map_some, ev_ofs, w7, m1, m2, vv_d1, vv_d0, Option.bind_some, List.length_cons, List.length_nil, lenOk_eq]
  rw [if_pos (by simp)]
  simp only [ev_ofs, due, hL]
theorem hIsWhole : Δ[I.is_whole]? = some (s_is_whole I) := rfl
theorem hIsTold : Δ[I.is_told]? = some (s_is_told I) := rfl
theorem hIsFr : Δ[I.is_fraction]? = some (s_is_fraction I) := rfl
theorem hAreFr : Δ[I.are_fractions]? = some (s_are_fractions I) := rfl
theorem beatsS : sOk (PySem.Str.ofString "beats") := sOk_str _
theorem rt_fr {a b : Int} (hb : 0 < b) : isFr (rt a b) = true := by
  have hg := gcd_pos (a := a) (b := b) (by omega)
  have e : cm a b = (Int.gcd a b : Int) := if_neg (by omega)
  have d1 : ((Int.gcd a b : Nat) : Int) ∣ a := Int.gcd_dvd_left ..
  have d2 : ((Int.gcd a b : Nat) : Int) ∣ b := Int.gcd_dvd_right ..
  show (decide (0 < b.fdiv (cm a b)) && Int.gcd (a.fdiv (cm a b)) (b.fdiv (cm a b)) == 1) = true
  rw [e, Int.fdiv_eq_ediv_of_dvd d1, Int.fdiv_eq_ediv_of_dvd d2]
  have p : 0 < b / (Int.gcd a b : Int) := Int.ediv_pos_of_pos_of_dvd hb (by omega) d2
  have q : Int.gcd (a / (Int.gcd a b : Int)) (b / (Int.gcd a b : Int)) = 1 := Int.gcd_ediv_gcd_ediv_gcd hg
  simp [p, q]
theorem due_ok : Ok 2 (due xs ys) := by
  refine .tup (by simp) fun d hd => ?_
  simp only [List.mem_cons, List.not_mem_nil, or_false] at hd
  rcases hd with rfl | rfl | rfl
  · exact .str beatsS
  · exact .tup (by simp) fun d hd => by
      simp only [List.mem_cons, List.not_mem_nil, or_false] at hd
      rcases hd with rfl | rfl <;> exact .int _
  · exact .tup (by simp) fun d hd => by
      simp only [List.mem_cons, List.not_mem_nil, or_false] at hd
      rcases hd with rfl | rfl <;> exact .int _
theorem due_pn : Pn 2 (due xs ys) := by
  refine .tup (by simp) fun d hd => ?_
  simp only [List.mem_cons, List.not_mem_nil, or_false] at hd
  rcases hd with rfl | rfl | rfl
  · exact .str beatsS
  · exact .tup (by simp) fun d hd => by
      simp only [List.mem_cons, List.not_mem_nil, or_false] at hd
      rcases hd with rfl | rfl <;> exact .int _
  · exact .tup (by simp) fun d hd => by
      simp only [List.mem_cons, List.not_mem_nil, or_false] at hd
      rcases hd with rfl | rfl <;> exact .int _
theorem isFr_eq {d : D} (h : isFr d = true) : ∃ a b, d = .tuple [.int a, .int b] := by
  unfold isFr at h
  split at h
  · exact ⟨_, _, rfl⟩
  · cases h
theorem shaped_told {a b c d : Int} : PySem.SeqAt.shaped (.tuple [.str (PySem.Str.ofString "beats"), .tuple [.int a, .int b], .tuple [.int c, .int d]]) = true := by
  have h : PySem.PyData.canLay0 (.str (PySem.Str.ofString "beats")) = true := beatsS
  have h2 : (PyData.tuple [.str (PySem.Str.ofString "beats"), .tuple [.int a, .int b], .tuple [.int c, .int d]]).depth ≤ 64 := by
    simp [PyData.depth, PyData.depthAll]
  have h3 : (PyData.tuple [.str (PySem.Str.ofString "beats"), .tuple [.int a, .int b], .tuple [.int c, .int d]]).canLay0 = true := by
    show (PyData.canLay0 (.str (PySem.Str.ofString "beats")) && true) = true
    rw [h]
    rfl
  unfold PySem.SeqAt.shaped
  rw [h3, decide_eq_true h2]
  rfl
theorem eq_told {a b c d a' b' c' d' : Int} : ∃ e, cmpE B .eq (.dat (.tuple [.str (PySem.Str.ofString "beats"), .tuple [.int a, .int b], .tuple [.int c, .int d]])) (.dat (.tuple [.str (PySem.Str.ofString "beats"), .tuple [.int a', .int b'], .tuple [.int c', .int d']])) = some e ∧
    (e = true ↔ PyData.tuple [.str (PySem.Str.ofString "beats"), .tuple [.int a, .int b], .tuple [.int c, .int d]] = .tuple [.str (PySem.Str.ofString "beats"), .tuple [.int a', .int b'], .tuple [.int c', .int d']]) := by
  refine ⟨PyData.eqv (.tuple [.str (PySem.Str.ofString "beats"), .tuple [.int a, .int b], .tuple [.int c, .int d]]) (.tuple [.str (PySem.Str.ofString "beats"), .tuple [.int a', .int b'], .tuple [.int c', .int d']]), ?_, ?_⟩
  · show (if (PySem.SeqAt.shaped _ && PySem.SeqAt.shaped _) = true then some (PyData.eqv _ _) else none) = _
    rw [shaped_told, shaped_told]
    rfl
  · simp [PyData.eqv, PyData.eqvAll]
theorem judge_ok (hk : k ≤ 1000000) (hx : ∀ d ∈ xs, frP k d) (hy : ∀ d ∈ ys, frP k d) (x0 : xs ≠ []) (y0 : ys ≠ []) (x1 : xs.length ≤ 8) (y1 : ys.length ≤ 8) {t : D} {j : Nat} (ht : Ok j t) : ∃ b, run Δ (n + 6) 12 [.dat (.tuple xs), .dat (.tuple ys), .dat t] B S = .ok (.bool b) S ∧ (b = true ↔ t = due xs ys) := by
  have hp : 0 < xs.length * ys.length := Nat.mul_pos (List.length_pos_iff.mpr x0) (List.length_pos_iff.mpr y0)
  rw [run_at (d := d12) rfl rfl]
  have bt := beats_ok (n := n) (B := []) (S := S) hk hx hy x0 y0 x1 y1
  have e1 : eE (run Δ (n + 5)) B (.call 11 [(.v 0), (.v 1)]) [some (.dat (.tuple xs)), some (.dat (.tuple ys)), some (.dat t), none] S = .ok (.dat (due xs ys)) S := by
    simp only [ev_call, ev_cons, ev_nil, ev_v0, ev_vs, ev_bok, vv_pd, vv_p0, Option.map_some, ev_ofs, bt]
  show ∃ b, (xSs (run Δ (n + 5)) B d12.body [some (.dat (.tuple xs)), some (.dat (.tuple ys)), some (.dat t), none] S).fin = .ok (.bool b) S ∧ _
  rw [d12]
  show ∃ b, (xSs (run Δ (n + 5)) B (.set 3 (.call 11 [(.v 0), (.v 1)]) :: [.ret _]) [some (.dat (.tuple xs)), some (.dat (.tuple ys)), some (.dat t), none] S).fin = .ok (.bool b) S ∧ _
  rw [w_set e1, List.set_cons_succ, List.set_cons_succ, List.set_cons_succ, List.set_cons_zero]
  have tl := is_told_run (I := I) (n := n + 4) (B := []) (S := S) hIsTold ht beatsS (c := 3) (by omega)
  have tl' : run Δ (n + 5) 1 [.dat t, .dat (.str (PySem.Str.ofString "beats")), .dat (.int 3)] [] S = .ok (.bool (isTold (PySem.Str.ofString "beats") 3 t)) S := tl
  cases h1 : isTold (PySem.Str.ofString "beats") 3 t with
  | false =>
    rw [h1] at tl'
    refine ⟨false, at_app (w_ret ?_), ?_⟩
    · simp only [ev_ands, ev_ands1, ev_call, ev_cons, ev_nil, ev_v0, ev_vs, ev_bok, ev_c, vv_pd, vv_p0, Option.map_some, ev_ofs, tl', vv_tb, Bool.false_eq_true, if_false]
    · constructor
      · intro z; cases z
      · intro z
        subst z
        simp [isTold, due] at h1
  | true =>
    rw [h1] at tl'
    obtain ⟨s, r, rfl⟩ : ∃ s r, t = .tuple (.str s :: r) := by
      unfold isTold at h1
      split at h1
      · exact ⟨_, _, rfl⟩
      · cases h1
    have h1' : r.length + 1 = 3 ∧ s = PySem.Str.ofString "beats" := by simpa [isTold] using h1
    have af := are_fractions_run (I := I) (n := n + 2) (B := []) (S := S) hAreFr hIsFr hIsWhole hDivisor (.tuple r) (c := 2) (by omega)
    have af' : run Δ (n + 5) 9 [.dat (.tuple r), .dat (.int 2)] [] S = .ok (.bool (areFr 2 (.tuple r))) S := af
    have sl : slcE B (.dat (.tuple (.str s :: r))) (some 1) none = some (.dat (.tuple r)) := by
      show some (EV.dat (.tuple (cutL (PySem.PyData.str s :: r) (some 1) none))) = _
      rw [cut_tail]
    cases h2 : areFr 2 (.tuple r) with
    | false =>
      rw [h2] at af'
      refine ⟨false, at_app (w_ret ?_), ?_⟩
      · simp only [ev_ands, ev_ands1, ev_call, ev_cons, ev_nil, ev_v0, ev_vs, ev_bok, ev_c, vv_pd, vv_p0, Option.map_some, ev_ofs, tl', vv_tb, if_true, ev_slcL, vv_io, Option.bind_some, sl, af', Bool.false_eq_true, if_false]
      · constructor
        · intro z; cases z
        · intro z
          unfold due at z
          injection z with z
          injection z with _ z
          subst z
          have f1 := rt_fr (a := (cnt (fun x y => lsD y x) xs ys : Nat)) (b := ((xs.length * ys.length : Nat) : Int)) (by omega)
          have f2 := rt_fr (a := (cnt (fun x y => lsD x y) xs ys : Nat)) (b := ((xs.length * ys.length : Nat) : Int)) (by omega)
          have z : areFr 2 (.tuple [rt (cnt (fun x y => lsD y x) xs ys : Nat) ((xs.length * ys.length : Nat) : Int), rt (cnt (fun x y => lsD x y) xs ys : Nat) ((xs.length * ys.length : Nat) : Int)]) = true := by
            show ((2 == 2) && (isFr _ && (isFr _ && true))) = true
            rw [f1, f2]
            rfl
          rw [z] at h2
          cases h2
    | true =>
      rw [h2] at af'
      have h2' : r.length = 2 ∧ r.all isFr = true := by simpa [areFr] using h2
      obtain ⟨u, v, rfl⟩ : ∃ u v, r = [u, v] := by
        match r, h2'.1 with
        | [u, v], _ => exact ⟨u, v, rfl⟩
      have h3 := h2'.2
      simp only [List.all_cons, List.all_nil, Bool.and_true, Bool.and_eq_true] at h3
      obtain ⟨a, b, rfl⟩ := isFr_eq h3.1
      obtain ⟨c, d, rfl⟩ := isFr_eq h3.2
      obtain ⟨_, rfl⟩ := h1'
      have eq := eq_told (B := B) (a := a) (b := b) (c := c) (d := d) (a' := ((cnt (fun x y => lsD y x) xs ys : Nat) : Int).fdiv (cm (cnt (fun x y => lsD y x) xs ys : Nat) ((xs.length * ys.length : Nat) : Int))) (b' := ((xs.length * ys.length : Nat) : Int).fdiv (cm (cnt (fun x y => lsD y x) xs ys : Nat) ((xs.length * ys.length : Nat) : Int))) (c' := ((cnt (fun x y => lsD x y) xs ys : Nat) : Int).fdiv (cm (cnt (fun x y => lsD x y) xs ys : Nat) ((xs.length * ys.length : Nat) : Int))) (d' := ((xs.length * ys.length : Nat) : Int).fdiv (cm (cnt (fun x y => lsD x y) xs ys : Nat) ((xs.length * ys.length : Nat) : Int)))
      obtain ⟨e, q1, q2⟩ := eq
      have q1' : cmpE B .eq (.dat (.tuple [.str (PySem.Str.ofString "beats"), .tuple [.int a, .int b], .tuple [.int c, .int d]])) (.dat (due xs ys)) = some e := q1
      refine ⟨e, at_app (w_ret ?_), q2⟩
      simp only [ev_ands, ev_ands1, ev_call, ev_cons, ev_nil, ev_v0, ev_vs, ev_bok, ev_c, vv_pd, vv_p0, Option.map_some, ev_ofs, tl', vv_tb, if_true, ev_slcL, vv_io, Option.bind_some, sl, af', ev_cmp, q1']
/-- all pairs -/
def prs (xs ys : List D) : List D := xs.flatMap fun x => ys.map fun y => .tuple [x, y]
theorem prs_cons {x : D} : prs (x :: xs) ys = (ys.map fun y => .tuple [x, y]) ++ prs xs ys := rfl
theorem prs_len : (prs xs ys).length = xs.length * ys.length := by
  induction xs with
  | nil => simp [prs]
  | cons x xs ih =>
    rw [prs_cons, List.length_append, List.length_map, ih, List.length_cons, Nat.succ_mul]
    omega
/-- the test's answer on a pair -/
def onP (f : D → D → Bool) : D → Bool
  | .tuple [x, y] => f x y
  | _ => false
theorem prs_cnt (f : D → D → Bool) : ((prs xs ys).filter (onP f)).length = cnt f xs ys := by
  induction xs with
  | nil => simp [prs, cnt]
  | cons x xs ih =>
    rw [prs_cons, List.filter_append, List.length_append, ih]
    have e : ((ys.map fun y => PyData.tuple [x, y]).filter (onP f)).length = (ys.filter (f x)).length := by
      rw [List.filter_map, List.length_map]
      rfl
    rw [e]
    simp [cnt]
theorem pair_loop {cf : CallF} {t3 : D} (hb : ys.length ≤ 8) : ∀ (zs : List D) (ps : List D) (o4 o5 o6 o7 : Option EV), ps.length + zs.length * ys.length ≤ 1000 → ∃ o4', forR cf B (.v 4) [.set 3 (.bin .add (.v 3) (.lc [7] (.v 7) (.val (.v 1)) [] (.tup [(.v 4), (.v 7)])))] zs [some (.dat (.tuple xs)), some (.dat (.tuple ys)), some (.dat t3), some (.dat (.list ps)), o4, o5, o6, o7] S = .nx [some (.dat (.tuple xs)), some (.dat (.tuple ys)), some (.dat t3), some (.dat (.list (ps ++ prs zs ys))), o4', o5, o6, o7] S
  | [], ps, o4, o5, o6, o7, _ => ⟨o4, by rw [forR_nil]; simp [prs]⟩
  | z :: zs, ps, o4, o5, o6, o7, h => by
    have hl : ps.length + (zs.length * ys.length + ys.length) ≤ 1000 := by
      rw [List.length_cons, Nat.succ_mul] at h
      exact h
    have lm := lc_map (cf := cf) (B := B) (S := S) (i := 7) (e := .tup [(.v 4), (.v 7)]) (ρ := [some (.dat (.tuple xs)), some (.dat (.tuple ys)), some (.dat t3), some (.dat (.list ps)), some (.dat z), o5, o6, none]) (f := fun y => .tuple [z, y]) ys fun d _ => by
      simp
    obtain ⟨o4', ih⟩ := pair_loop (cf := cf) (t3 := t3) hb zs (ps ++ ys.map fun y => .tuple [z, y]) (some (.dat z)) o5 o6 o7 (by rw [List.length_append, List.length_map]; omega)
    refine ⟨o4', ?_⟩
    have hz : ys.length ≤ 1000000 := by omega
    have ad : binE B .add (.dat (.list ps)) (.dat (.list (ys.map fun y => .tuple [z, y]))) = some (.dat (.list (ps ++ ys.map fun y => .tuple [z, y]))) := by
      show (if lenOk (ps.length + (ys.map fun y => PyData.tuple [z, y]).length) = true then _ else _) = _
      rw [if_pos (by rw [lenOk_eq, List.length_map]; simp; omega)]
    rw [forR_cons]
    simp only [bp_v, List.set_cons_succ, List.set_cons_zero, xv_cons, xv_nil, xv_set, ev_bin, ev_v0, ev_vs, ev_bok, ev_lc, ev_sval, stabL, Bool.not_false, Bool.true_or, if_true, srcItems, seqOf, ev_ofs, wipeR, lm, ev_str, lenOk_eq, List.length_map, hz, decide_true, ad, ev_ook, vv_ko, ev_snx]
    rw [ih, prs_cons, List.append_assoc]
theorem cntP {cf : CallF} {c : Ex} {f : D → D → Bool} {ρ : Rho} : ∀ zs : List D, (∀ z ∈ zs, ∃ x y, z = .tuple [x, y] ∧ eT cf B c ((ρ.set 4 (some (.dat x))).set 7 (some (.dat y))) S = .ok (f x y) S) → lcR cf B (.t [.v 4, .v 7]) [c] (.c (.int 1)) ρ zs S = .ok (List.replicate (zs.filter (onP f)).length (.int 1)) S
  | [], _ => rfl
  | z :: zs, h => by
    obtain ⟨x, y, rfl, t⟩ := h z List.mem_cons_self
    have ih := cntP (cf := cf) (c := c) (f := f) (ρ := ρ) zs fun w hw => h w (List.mem_cons_of_mem _ hw)
    have t' : eCs cf B [c] ((ρ.set 4 (some (.dat x))).set 7 (some (.dat y))) S = .ok (f x y) S := t
    have bp : bindP (.t [.v 4, .v 7]) (.tuple [x, y]) ρ = some ((ρ.set 4 (some (.dat x))).set 7 (some (.dat y))) := rfl
    have op : onP f (.tuple [x, y]) = f x y := rfl
    rw [lcR_cons]
    simp only [bp, t', ev_bok]
    cases hf : f x y with
    | true =>
      simp only [if_true, ev_c, ev_bok, ih, List.filter_cons, op, hf, List.length_cons]
      rfl
    | false => simp only [Bool.false_eq_true, if_false, List.filter_cons, op, hf, ih]
theorem accepts_ok (hk : k ≤ 1000000) (hx : ∀ d ∈ xs, frP k d) (hy : ∀ d ∈ ys, frP k d) (x0 : xs ≠ []) (y0 : ys ≠ []) (x1 : xs.length ≤ 8) (y1 : ys.length ≤ 8) {t : D} {j : Nat} (ht : Ok j t) : ∃ b, run Δ (n + 6) 25 [.dat (.tuple xs), .dat (.tuple ys), .dat t] B S = .ok (.bool b) S ∧ (b = true ↔ t = due xs ys) := by
  have hb : xs.length * ys.length ≤ 64 := Nat.mul_le_mul x1 y1
  have hp : 0 < xs.length * ys.length := Nat.mul_pos (List.length_pos_iff.mpr x0) (List.length_pos_iff.mpr y0)
  have c1 := cnt_le (xs := xs) (ys := ys) (fun x y => lsD y x)
  have c2 := cnt_le (xs := xs) (ys := ys) (fun x y => lsD x y)
  rw [run_at (d := d25) rfl rfl]
  show ∃ b, (xSs (run Δ (n + 5)) B d25.body [some (.dat (.tuple xs)), some (.dat (.tuple ys)), some (.dat t), none, none, none, none, none] S).fin = .ok (.bool b) S ∧ _
  obtain ⟨o4, lp⟩ := pair_loop (B := B) (S := S) (xs := xs) (ys := ys) (cf := run Δ (n + 5)) (t3 := t) y1 xs [] none none none none (by simp; omega)
  rw [List.nil_append] at lp
  rw [d25]
  show ∃ b, (xSs (run Δ (n + 5)) B (.set 3 _ :: .for _ _ _ :: .set 5 _ :: .set 6 _ :: [.ret _]) _ S).fin = .ok (.bool b) S ∧ _
  rw [w_set (S' := S) (d := .list []) rfl]
  have hfor : ∀ r, xSs (run Δ (n + 5)) B (.for (.v 4) (.val (.v 0)) [.set 3 (.bin .add (.v 3) (.lc [7] (.v 7) (.val (.v 1)) [] (.tup [(.v 4), (.v 7)])))] :: r) [some (.dat (.tuple xs)), some (.dat (.tuple ys)), some (.dat t), some (.dat (.list [])), none, none, none, none] S = xSs (run Δ (n + 5)) B r [some (.dat (.tuple xs)), some (.dat (.tuple ys)), some (.dat t), some (.dat (.list (prs xs ys))), o4, none, none, none] S := fun r => by
    have sv : eSrc (run Δ (n + 5)) B true (.val (.v 0)) [some (.dat (.tuple xs)), some (.dat (.tuple ys)), some (.dat t), some (.dat (.list [])), none, none, none, none] S = .ok xs S := rfl
    rw [xv_cons, xv_for, sv, ev_ook, lp, ev_snx]
  have hpl := prs_len (xs := xs) (ys := ys)
  have mem : ∀ z ∈ prs xs ys, ∃ x y, z = .tuple [x, y] ∧ x ∈ xs ∧ y ∈ ys := fun z hz => by
    unfold prs at hz
    obtain ⟨x, h1, h2⟩ := List.mem_flatMap.mp hz
    obtain ⟨y, h3, rfl⟩ := List.mem_map.mp h2
    exact ⟨x, y, rfl, h1, h3⟩
  have q1 := cntP (cf := run Δ (n + 5)) (B := B) (S := S) (c := .call 23 [(.v 7), (.v 4)]) (f := fun x y => lsD y x) (ρ := [some (.dat (.tuple xs)), some (.dat (.tuple ys)), some (.dat t), some (.dat (.list (prs xs ys))), none, none, none, none]) (prs xs ys) fun z hz => by
    obtain ⟨x, y, rfl, h1, h2⟩ := mem z hz
    refine ⟨x, y, rfl, ?_⟩
    unfold eT
    have := lless_fr (n := n + 4) (B := []) (S := S) hk (hy y h2) (hx x h1)
    simp [this]
  have q2 := cntP (cf := run Δ (n + 5)) (B := B) (S := S) (c := .call 23 [(.v 4), (.v 7)]) (f := fun x y => lsD x y) (ρ := [some (.dat (.tuple xs)), some (.dat (.tuple ys)), some (.dat t), some (.dat (.list (prs xs ys))), none, some (.dat (.int (cnt (fun x y => lsD y x) xs ys : Nat))), none, none]) (prs xs ys) fun z hz => by
    obtain ⟨x, y, rfl, h1, h2⟩ := mem z hz
    refine ⟨x, y, rfl, ?_⟩
    unfold eT
    have := lless_fr (n := n + 4) (B := []) (S := S) hk (hx x h1) (hy y h2)
    simp [this]
  rw [prs_cnt] at q1 q2
  have b1 : cnt (fun x y => lsD y x) xs ys ≤ 1000000 := by omega
  have b2 : cnt (fun x y => lsD x y) xs ys ≤ 1000000 := by omega
  have e5 : eE (run Δ (n + 5)) B (.blt .len [(.lc [4, 7] (.t [(.v 4), (.v 7)]) (.val (.v 3)) [(.call 23 [(.v 7), (.v 4)])] (.c (.int 1)))]) [some (.dat (.tuple xs)), some (.dat (.tuple ys)), some (.dat t), some (.dat (.list (prs xs ys))), o4, none, none, none] S = .ok (.dat (.int (cnt (fun x y => lsD y x) xs ys : Nat))) S := by
    simp only [ev_blt, ev_cons, ev_nil, ev_lc, ev_sval, ev_v0, ev_vs, ev_bok, stabL, Bool.not_false, Bool.true_or, if_true, srcItems, seqOf, lstOf, ev_ofs, wipeR, List.set_cons_succ, List.set_cons_zero, q1, ev_str, lenOk_eq, List.length_replicate, b1, decide_true, vv_lenl]
  have e6 : eE (run Δ (n + 5)) B (.blt .len [(.lc [4, 7] (.t [(.v 4), (.v 7)]) (.val (.v 3)) [(.call 23 [(.v 4), (.v 7)])] (.c (.int 1)))]) [some (.dat (.tuple xs)), some (.dat (.tuple ys)), some (.dat t), some (.dat (.list (prs xs ys))), o4, some (.dat (.int (cnt (fun x y => lsD y x) xs ys : Nat))), none, none] S = .ok (.dat (.int (cnt (fun x y => lsD x y) xs ys : Nat))) S := by
    simp only [ev_blt, ev_cons, ev_nil, ev_lc, ev_sval, ev_v0, ev_vs, ev_bok, stabL, Bool.not_false, Bool.true_or, if_true, srcItems, seqOf, lstOf, ev_ofs, wipeR, List.set_cons_succ, List.set_cons_zero, q2, ev_str, lenOk_eq, List.length_replicate, b2, decide_true, vv_lenl]
  rw [List.set_cons_succ, List.set_cons_succ, List.set_cons_succ, List.set_cons_zero, hfor, w_set e5, List.set_cons_succ, List.set_cons_succ, List.set_cons_succ, List.set_cons_succ, List.set_cons_succ, List.set_cons_zero, w_set e6]
  have bl : ∀ i : Int, -1000000 ≤ i → i ≤ 1000000 → i.natAbs < 2 ^ 8000 := fun i a b => Nat.lt_of_lt_of_le (show i.natAbs < 2 ^ 20 by omega) (Nat.pow_le_pow_right (by omega) (by omega))
  have of := fun c : Nat => lof_run (I := I) (n := n + 3) (B := []) (S := S) hOf hGcd (a := (c : Int)) (b := ((xs.length * ys.length : Nat) : Int)) (by omega) (bl _ (by omega) (by omega))
  have of' : ∀ c : Nat, run Δ (n + 5) 22 [.dat (.int c), .dat (.int ((xs.length * ys.length : Nat) : Int))] [] S = .ok (rt c ((xs.length * ys.length : Nat) : Int)) S := of
  obtain ⟨b, sm, si⟩ := same_run (I := I) (S := S) hSame 2 (due xs ys) due_pn j t ht (n + 5) [] (by omega)
  have sm' : run Δ (n + 5) 14 [.dat t, .dat (due xs ys)] [] S = .ok (.bool b) S := sm
  refine ⟨b, at_app (w_ret ?_), si⟩
  have tp : eE (run Δ (n + 5)) B (.tup [(.c (.str (PySem.Str.ofString "beats"))), (.call 22 [(.v 5), (.blt .len [(.v 3)])]), (.call 22 [(.v 6), (.blt .len [(.v 3)])])]) [some (.dat (.tuple xs)), some (.dat (.tuple ys)), some (.dat t), some (.dat (.list (prs xs ys))), o4, some (.dat (.int (cnt (fun x y => lsD y x) xs ys : Nat))), some (.dat (.int (cnt (fun x y => lsD x y) xs ys : Nat))), none] S = .ok (.dat (due xs ys)) S := by
    simp only [ev_tup, ev_cons, ev_nil, ev_c, ev_bok, ev_call, ev_v0, ev_vs, ev_blt, vv_lenl, hpl, ev_ofs, vv_pd, vv_p0, Option.map_some, of', vv_d1, vv_d0, Option.bind_some, List.length_cons, List.length_nil, lenOk_eq]
    rw [if_pos (by simp)]
    rfl
  simp only [List.set_cons_succ, List.set_cons_zero]
  rw [ev_call, ev_cons, ev_vs, ev_vs, ev_v0, ev_bok, ev_cons, tp]
  simp only [ev_bok, ev_nil, vv_pd, vv_p0, Option.map_some, ev_ofs, sm']
/-- whatever the rows -/
theorem beats_any (hk : k ≤ 1000000) (hx : ∀ d ∈ xs, frP k d) (hy : ∀ d ∈ ys, frP k d) : run Δ (n + 5) 11 [.dat (.tuple xs), .dat (.tuple ys)] B S = .ok (due xs ys) S ∨ ∃ c, c < 2 ∧ run Δ (n + 5) 11 [.dat (.tuple xs), .dat (.tuple ys)] B S = .exc c S := by
  have bad1 : ∀ c, run Δ (n + 4) 10 [.dat (.tuple xs), .dat (.int 1)] [] S = .exc c S → run Δ (n + 5) 11 [.dat (.tuple xs), .dat (.tuple ys)] B S = .exc c S := fun c h => by
    rw [run_at (d := d11) rfl rfl]
    simp [d11, h]
  have bad2 : xs ≠ [] → xs.length ≤ 8 → ∀ c, run Δ (n + 4) 10 [.dat (.tuple ys), .dat (.int 1)] [] S = .exc c S → run Δ (n + 5) 11 [.dat (.tuple xs), .dat (.tuple ys)] B S = .exc c S := fun h0 h1 c h => by
    have h2 := check_ok (n := n + 3) (B := []) (S := S) h0 h1
    rw [run_at (d := d11) rfl rfl]
    simp [d11, h, h2]
  by_cases x0 : xs = []
  · exact .inr ⟨0, by omega, bad1 0 (by subst x0; exact check_nil)⟩
  by_cases x1 : xs.length ≤ 8
  · by_cases y0 : ys = []
    · exact .inr ⟨0, by omega, bad2 x0 x1 0 (by subst y0; exact check_nil)⟩
    by_cases y1 : ys.length ≤ 8
    · exact .inl (beats_ok hk hx hy x0 y0 x1 y1)
    · exact .inr ⟨1, by omega, bad2 x0 x1 1 (check_big y0 (by omega))⟩
  · exact .inr ⟨1, by omega, bad1 1 (check_big x0 (by omega))⟩
theorem judge_exc {a b t : D} {c : Nat} (h : run Δ (n + 5) 11 [.dat a, .dat b] [] S = .exc c S) : run Δ (n + 6) 12 [.dat a, .dat b, .dat t] B S = .exc c S := by
  rw [run_at (d := d12) rfl rfl]
  simp [d12, h]
theorem xv_tryA {cf : CallF} {ρ ρ' : Rho} {b : List Sm} {i : Nat} {r : List Sm} (h : xSs cf B b ρ S = .exc 0 ρ' S) (hi : i < ρ'.length) : xSs cf B (.tryA b 0 i :: r) ρ S = xSs cf B r (ρ'.set i none) S := by
  have e : xS cf B (.tryA b 0 i) ρ S = .nx (ρ'.set i none) S := by
    show (match xSs cf B b ρ S with
      | .exc c' ρ' S' => if c' == 0 then (if i < ρ'.length then Out.nx (ρ'.set i none) S' else .bad) else if Nat.blt c' 2 then .exc c' ρ' S' else .bad
      | o => o) = _
    rw [h]
    simp [hi]
  rw [xv_cons, e, ev_snx]
theorem unfit_run {a b : D} (h : ∀ n S, run Δ (n + 5) 11 [.dat a, .dat b] [] S = .exc 0 S) : run Δ (n + 7) 26 [.dat a, .dat b] B S = .ok (.bool true) S := by
  rw [run_at (d := d26) rfl rfl]
  show (xSs (run Δ (n + 6)) B d26.body [some (.dat a), some (.dat b), none, none] S).fin = _
  have t1 : ∀ o3, xSs (run Δ (n + 6)) B [.tryA [.ite (.v 2) [.ex (.call 12 [(.v 0), (.v 1), (.c .none)])] [.ex (.call 11 [(.v 0), (.v 1)])], .ret (.c (.bool false))] 0 3] [some (.dat a), some (.dat b), some (.dat (.bool false)), o3] S = .nx [some (.dat a), some (.dat b), some (.dat (.bool false)), none] S := fun o3 => by
    have hb := h (n + 1) S
    rw [xv_tryA (ρ' := [some (.dat a), some (.dat b), some (.dat (.bool false)), o3]) (by simp [hb]) (by simp)]
    rfl
  have t2 : ∀ o3, xSs (run Δ (n + 6)) B [.tryA [.ite (.v 2) [.ex (.call 12 [(.v 0), (.v 1), (.c .none)])] [.ex (.call 11 [(.v 0), (.v 1)])], .ret (.c (.bool false))] 0 3] [some (.dat a), some (.dat b), some (.dat (.bool true)), o3] S = .nx [some (.dat a), some (.dat b), some (.dat (.bool true)), none] S := fun o3 => by
    have hb := judge_exc (n := n) (B := []) (S := S) (t := .none) (h n S)
    rw [xv_tryA (ρ' := [some (.dat a), some (.dat b), some (.dat (.bool true)), o3]) (by simp [hb]) (by simp)]
    rfl
  have sv : eSrc (run Δ (n + 6)) B true (.val (.lst [(.c (.bool false)), (.c (.bool true))])) [some (.dat a), some (.dat b), none, none] S = .ok [.bool false, .bool true] S := rfl
  rw [d26]
  show (xSs (run Δ (n + 6)) B (.for _ _ _ :: [.ret _]) _ S).fin = _
  rw [xv_cons, xv_for, sv, ev_ook, forR_cons]
  simp only [bp_v, List.set_cons_succ, List.set_cons_zero, t1]
  rw [forR_cons]
  simp only [bp_v, List.set_cons_succ, List.set_cons_zero, t2, forR_nil, ev_snx]
  rfl
theorem rt_frP {a b : Int} (h0 : 0 < b) (h1 : b ≤ k) (h2 : -k ≤ a) (h3 : a ≤ k) : frP k (rt a b) := by
  have hg := gcd_pos (a := a) (b := b) (by omega)
  have e : cm a b = (Int.gcd a b : Int) := if_neg (by omega)
  have d1 : ((Int.gcd a b : Nat) : Int) ∣ a := Int.gcd_dvd_left ..
  have d2 : ((Int.gcd a b : Nat) : Int) ∣ b := Int.gcd_dvd_right ..
  have small : ∀ c : Int, ((Int.gcd a b : Nat) : Int) ∣ c → (c / (Int.gcd a b : Int)).natAbs ≤ c.natAbs := fun c ⟨u, hu⟩ => by
    generalize Int.gcd a b = g at *
    rw [hu, Int.mul_ediv_cancel_left _ (by omega), Int.natAbs_mul]
    have : (g : Int).natAbs = g := rfl
    rw [this]
    exact Nat.le_mul_of_pos_left _ hg
  have p : 0 < b / (Int.gcd a b : Int) := Int.ediv_pos_of_pos_of_dvd h0 (by omega) d2
  have s1 := small a d1
  have s2 := small b d2
  refine ⟨a.fdiv (cm a b), b.fdiv (cm a b), rfl, ?_⟩
  rw [e, Int.fdiv_eq_ediv_of_dvd d1, Int.fdiv_eq_ediv_of_dvd d2]
  omega
theorem frac_run (hS : StaOk S) : Gv (run Δ (n + 4) 24 [.st] B S) (frP 12) := by
  rw [run_at (d := d24) rfl rfl]
  show Gv ((xSs (run Δ (n + 3)) B d24.body [some .st] S).fin) _
  obtain ⟨v, S1, e1, h1, hS1⟩ := draw (Δ := Δ) (I := I) (m := n + 2) (B := B) (ρ := [some .st]) (x := .c (.int 13)) (l := 13) hNext hS rfl ⟨_, fun _ => rfl, rfl⟩ (by decide) (by decide)
  obtain ⟨w, S2, e2, h2, hS2⟩ := draw (Δ := Δ) (I := I) (m := n + 2) (B := B) (ρ := [some .st]) (x := .c (.int 3)) (l := 3) hNext hS1 rfl ⟨_, fun _ => rfl, rfl⟩ (by decide) (by decide)
  have e1' : eE (run Δ (n + 3)) B (.call 13 [(.v 0), (.c (.int 13))]) [some .st] S = .ok (.dat (.int v)) S1 := e1
  have e2' : eE (run Δ (n + 3)) B (.call 13 [(.v 0), (.c (.int 3))]) [some .st] S1 = .ok (.dat (.int w)) S2 := e2
  have of := lof_run (I := I) (n := n + 1) (B := []) (S := S2) hOf hGcd (a := (v : Int) - 4) (b := 1 + (w : Int)) (by omega) (Nat.lt_of_lt_of_le (show (1 + (w : Int)).natAbs < 2 ^ 20 by omega) (Nat.pow_le_pow_right (by omega) (by omega)))
  have of' : run Δ (n + 3) 22 [.dat (.int ((v : Int) - 4)), .dat (.int (1 + (w : Int)))] [] S2 = .ok (rt ((v : Int) - 4) (1 + (w : Int))) S2 := of
  refine ⟨_, S2, at_app (w_ret ?_), rt_frP (a := (v : Int) - 4) (b := 1 + (w : Int)) (by omega) (by omega) (by omega) (by omega), hS2⟩
  rw [ev_call]
  simp only [ev_cons, ev_nil, ev_bin, e1', ev_bok, ev_c, vv_sub, ev_ofs, e2', vv_add, vv_pd, vv_p0, Option.map_some, of']
theorem xv_tryB {cf : CallF} {ρ ρ' : Rho} {b : List Sm} {i c : Nat} {r : List Sm} (h : xSs cf B b ρ S = .exc c ρ' S) (hc : c < 2) (hi : i < ρ'.length) : xSs cf B (.tryB b 0 1 i :: r) ρ S = .rt (.tuple []) S := by
  have e : xS cf B (.tryB b 0 1 i) ρ S = .rt (.tuple []) S := by
    show (match xSs cf B b ρ S with
      | .exc c' ρ' S' => if c' == 0 || c' == 1 then (if i < ρ'.length then Out.rt (.tuple []) S' else .bad) else .bad
      | o => o) = _
    rw [h]
    have : c = 0 ∨ c = 1 := by omega
    rcases this with rfl | rfl <;> simp [hi]
  rw [xv_cons, e, ev_srt]
theorem xv_tryR {cf : CallF} {ρ : Rho} {b : List Sm} {i : Nat} {d : D} {r : List Sm} (h : xSs cf B b ρ S = .rt d S) : xSs cf B (.tryB b 0 1 i :: r) ρ S = .rt d S := by
  have e : xS cf B (.tryB b 0 1 i) ρ S = .rt d S := by
    show (match xSs cf B b ρ S with
      | .exc c' ρ' S' => if c' == 0 || c' == 1 then (if i < ρ'.length then Out.rt (.tuple []) S' else .bad) else .bad
      | o => o) = _
    rw [h]
  rw [xv_cons, e, ev_srt]
theorem hNb : Δ[I.law_neighbour]? = some (s_law_neighbour I) := rfl
theorem near_run (hS : StaOk S) (hx : ∀ d ∈ xs, frP 12 d) (hy : ∀ d ∈ ys, frP 12 d) (x1 : xs.length ≤ 1000) (y1 : ys.length ≤ 1000) : Gv (run Δ (n + 7) 28 [.st, .dat (.tuple xs), .dat (.tuple ys)] B S) (Ok 2) := by
  rw [run_at (d := d28) rfl rfl]
  show Gv ((xSs (run Δ (n + 6)) B d28.body [some .st, some (.dat (.tuple xs)), some (.dat (.tuple ys)), none, none, none] S).fin) _
  obtain ⟨t, S1, e1, h1, hS1⟩ := draw (Δ := Δ) (I := I) (m := n + 5) (B := B) (ρ := [some .st, some (.dat (.tuple xs)), some (.dat (.tuple ys)), some (.own [.tuple xs, .tuple ys]), none, none]) (x := .c (.int 2)) (l := 2) hNext hS rfl ⟨_, fun _ => rfl, rfl⟩ (by decide) (by decide)
  have e1' : eE (run Δ (n + 6)) B (.call 13 [(.v 0), (.c (.int 2))]) [some .st, some (.dat (.tuple xs)), some (.dat (.tuple ys)), some (.own [.tuple xs, .tuple ys]), none, none] S = .ok (.dat (.int t)) S1 := e1
  -- behind the choice
  have fin : ∀ (us vs : List D) (S2 : Sta), StaOk S2 → (∀ d ∈ us, frP 24 d) → (∀ d ∈ vs, frP 24 d) → Gv ((xSs (run Δ (n + 6)) B [.frz 3, .tryB [.ret (.call 11 [(.sub (.v 3) (.c (.int 0))), (.sub (.v 3) (.c (.int 1)))])] 0 1 5] [some .st, some (.dat (.tuple xs)), some (.dat (.tuple ys)), some (.own [.tuple us, .tuple vs]), some (.dat (.int t)), none] S2).fin) (Ok 2) := fun us vs S2 hS2 hu hv => by
    have fz : ∀ r, xSs (run Δ (n + 6)) B (.frz 3 :: r) [some .st, some (.dat (.tuple xs)), some (.dat (.tuple ys)), some (.own [.tuple us, .tuple vs]), some (.dat (.int t)), none] S2 = xSs (run Δ (n + 6)) B r [some .st, some (.dat (.tuple xs)), some (.dat (.tuple ys)), some (.dat (.list [.tuple us, .tuple vs])), some (.dat (.int t)), none] S2 := fun r => rfl
    have a0 : L2.atI ([PyData.tuple us, .tuple vs] : List D) 0 = some (.tuple us) := at_nat (k := 0) rfl
    have a1 : L2.atI ([PyData.tuple us, .tuple vs] : List D) 1 = some (.tuple vs) := at_nat (k := 1) rfl
    rw [fz]
    rcases beats_any (n := n + 1) (B := []) (S := S2) (k := 24) (by omega) hu hv with h | ⟨c, hc, h⟩
    · refine ⟨due us vs, S2, ?_, due_ok, hS2⟩
      rw [xv_tryR (d := due us vs)]
      · rfl
      · simp [a0, a1, h]
    · refine ⟨.tuple [], S2, ?_, .tup (by simp) (fun _ h => by cases h), hS2⟩
      rw [xv_tryB (c := c) (ρ' := [some .st, some (.dat (.tuple xs)), some (.dat (.tuple ys)), some (.dat (.list [.tuple us, .tuple vs])), some (.dat (.int t)), none]) ?_ hc (by simp)]
      · rfl
      · simp [a0, a1, h]
  have up : ∀ {ds : List D}, (∀ d ∈ ds, frP 12 d) → ∀ d ∈ ds, frP 24 d := fun h d hd => by
    obtain ⟨p, q, e, a, b, c, f⟩ := h d hd
    exact ⟨p, q, e, a, by omega, by omega, by omega⟩
  rw [d28]
  show Gv ((xSs (run Δ (n + 6)) B (.own 3 (.lst [(.v 1), (.v 2)]) :: .set 4 (.call 13 [(.v 0), (.c (.int 2))]) :: .sit 3 (.v 4) (.call 27 [(.v 0), (.sub (.v 3) (.v 4))]) :: _) _ S).fin) _
  have ow : ∀ r, xSs (run Δ (n + 6)) B (.own 3 (.lst [(.v 1), (.v 2)]) :: r) [some .st, some (.dat (.tuple xs)), some (.dat (.tuple ys)), none, none, none] S = xSs (run Δ (n + 6)) B r [some .st, some (.dat (.tuple xs)), some (.dat (.tuple ys)), some (.own [.tuple xs, .tuple ys]), none, none] S := fun r => rfl
  rw [ow, w_set e1', List.set_cons_succ, List.set_cons_succ, List.set_cons_succ, List.set_cons_succ, List.set_cons_zero]
  have ht : t = 0 ∨ t = 1 := by omega
  have a0 : L2.atI ([PyData.tuple xs, .tuple ys] : List D) ((0 : Nat) : Int) = some (.tuple xs) := at_nat (k := 0) rfl
  have a1 : L2.atI ([PyData.tuple xs, .tuple ys] : List D) ((1 : Nat) : Int) = some (.tuple ys) := at_nat (k := 1) rfl
  rcases ht with rfl | rfl
  · obtain ⟨_, S2, e2, ⟨us, rfl, hul, hu⟩, hS2⟩ := nb_run (I := I) (B := []) (m := n + 6) hNext hNb (k := 12) (by omega) x1 hx (by omega) hS1
    have e2' : run Δ (n + 6) 27 [.st, .dat (.tuple xs)] [] S1 = .ok (.tuple us) S2 := e2
    have st : ∀ r, xSs (run Δ (n + 6)) B (.sit 3 (.v 4) (.call 27 [(.v 0), (.sub (.v 3) (.v 4))]) :: r) [some .st, some (.dat (.tuple xs)), some (.dat (.tuple ys)), some (.own [.tuple xs, .tuple ys]), some (.dat (.int ((0 : Nat) : Int))), none] S1 = xSs (run Δ (n + 6)) B r [some .st, some (.dat (.tuple xs)), some (.dat (.tuple ys)), some (.own [.tuple us, .tuple ys]), some (.dat (.int ((0 : Nat) : Int))), none] S2 := fun r => by
      have sb : ∀ S, subE B S (.own [.tuple xs, .tuple ys]) (.dat (.int ((0 : Nat) : Int))) = some (.dat (.tuple xs)) := fun S => by
        show (L2.atI ([PyData.tuple xs, .tuple ys] : List D) ((0 : Nat) : Int)).map EV.dat = _
        rw [a0]; rfl
      have se : setE S2 (.own [.tuple xs, .tuple ys]) (.dat (.int ((0 : Nat) : Int))) (.tuple us) = some (.own [.tuple us, .tuple ys], S2) := by
        show (L2.ixN 2 ((0 : Nat) : Int)).map (fun j => (EV.own (([PyData.tuple xs, .tuple ys] : List D).set j (.tuple us)), S2)) = _
        rw [ix_nat (by omega)]; rfl
      rw [xv_cons]
      simp only [xv_sit, ev_call, ev_cons, ev_nil, ev_v0, ev_vs, ev_bok, ev_sub, sb, ev_ofs, vv_ps, vv_pd, vv_p0, Option.map_some, e2', ev_ook, vv_do, Option.bind_some, sl_s, sl_0, se, ev_snx, List.set_cons_succ, List.set_cons_zero]
    rw [st]
    exact fin us ys S2 hS2 hu (up hy)
  · obtain ⟨_, S2, e2, ⟨us, rfl, hul, hu⟩, hS2⟩ := nb_run (I := I) (B := []) (m := n + 6) hNext hNb (k := 12) (by omega) y1 hy (by omega) hS1
    have e2' : run Δ (n + 6) 27 [.st, .dat (.tuple ys)] [] S1 = .ok (.tuple us) S2 := e2
    have st : ∀ r, xSs (run Δ (n + 6)) B (.sit 3 (.v 4) (.call 27 [(.v 0), (.sub (.v 3) (.v 4))]) :: r) [some .st, some (.dat (.tuple xs)), some (.dat (.tuple ys)), some (.own [.tuple xs, .tuple ys]), some (.dat (.int ((1 : Nat) : Int))), none] S1 = xSs (run Δ (n + 6)) B r [some .st, some (.dat (.tuple xs)), some (.dat (.tuple ys)), some (.own [.tuple xs, .tuple us]), some (.dat (.int ((1 : Nat) : Int))), none] S2 := fun r => by
      have sb : ∀ S, subE B S (.own [.tuple xs, .tuple ys]) (.dat (.int ((1 : Nat) : Int))) = some (.dat (.tuple ys)) := fun S => by
        show (L2.atI ([PyData.tuple xs, .tuple ys] : List D) ((1 : Nat) : Int)).map EV.dat = _
        rw [a1]; rfl
      have se : setE S2 (.own [.tuple xs, .tuple ys]) (.dat (.int ((1 : Nat) : Int))) (.tuple us) = some (.own [.tuple xs, .tuple us], S2) := by
        show (L2.ixN 2 ((1 : Nat) : Int)).map (fun j => (EV.own (([PyData.tuple xs, .tuple ys] : List D).set j (.tuple us)), S2)) = _
        rw [ix_nat (by omega)]; rfl
      rw [xv_cons]
      simp only [xv_sit, ev_call, ev_cons, ev_nil, ev_v0, ev_vs, ev_bok, ev_sub, sb, ev_ofs, vv_ps, vv_pd, vv_p0, Option.map_some, e2', ev_ook, vv_do, Option.bind_some, sl_s, sl_0, se, ev_snx, List.set_cons_succ, List.set_cons_zero]
    rw [st]
    exact fin xs us S2 hS2 (up hx) hu
theorem hInts : Δ[I.law_ints]? = some (s_law_ints I) := rfl
theorem hExch : Δ[I.law_exchanged]? = some (s_law_exchanged I) := rfl
theorem hCut : Δ[I.law_cut]? = some (s_law_cut I) := rfl
theorem hTurn : Δ[I.law_turned_about]? = some (s_law_turned_about I) := rfl
theorem hChg : Δ[I.law_changed]? = some (s_law_changed I) := rfl
theorem hOdd : Δ[I.law_odd]? = some (s_law_odd I) := rfl
theorem due_tld (hb : xs.length * ys.length ≤ 64) (hp : 0 < xs.length * ys.length) : Tld 1 (due xs ys) := by
  have c1 := cnt_le (xs := xs) (ys := ys) (fun x y => lsD y x)
  have c2 := cnt_le (xs := xs) (ys := ys) (fun x y => lsD x y)
  refine ⟨_, _, rfl, beatsS, by decide, by simp, fun d hd => ?_, ?_⟩
  · simp only [List.mem_cons, List.not_mem_nil, or_false] at hd
    rcases hd with rfl | rfl
    · exact (rt_frP (k := 100) (by omega) (by omega) (by omega) (by omega)).nm (by omega)
    · exact (rt_frP (k := 100) (by omega) (by omega) (by omega) (by omega)).nm (by omega)
  · show 1 + (1 + 0) + (1 + (1 + 0) + 0) ≤ 1000
    omega
/-- a drawn row -/
theorem row_run {ρ : Rho} (hS : StaOk S) (h1 : ρ[1]? = some (some .st)) (h8 : ρ.length = 10) (hz : ρ[8]? = some none ∨ True) : Gv ((eE (run Δ (n + 5)) B (.blt .tuple [(.lc [8] (.v 8) (.rng1 (.bin .add (.c (.int 1)) (.call 13 [(.v 1), (.c (.int 4))]))) [] (.call 24 [(.v 1)]))]) ρ S).bind fun v S1 => Res.of (datE v) S1) (fun d => ∃ ds, d = .tuple ds ∧ ds ≠ [] ∧ ds.length ≤ 4 ∧ ∀ x ∈ ds, frP 12 x) := by
  obtain ⟨v, S1, e1, h2, h3, hS1⟩ := next_run (I := I) (n := n + 4) (B := []) hNext hS (l := 4) (by omega) (fit_k (by omega) (by omega))
  have e1' : run Δ (n + 5) 13 [.st, .dat (.int 4)] [] S = .ok (.int v) S1 := e1
  have src : eSrc (run Δ (n + 5)) B false (.rng1 (.bin .add (.c (.int 1)) (.call 13 [(.v 1), (.c (.int 4))]))) ρ S = .ok (rngL 0 (1 + v).toNat) S1 := by
    have r : rng1Of (.dat (.int (1 + v))) = some (rngL 0 (1 + v).toNat) := by
      show (if small62 (1 + v) = true then some (rngL 0 (1 + v).toNat) else none) = _
      rw [if_pos (by unfold small62; simp; omega)]
    simp only [ev_srng1, ev_bin, ev_c, ev_bok, ev_call, ev_cons, ev_nil, ev_v h1, vv_ps, vv_pd, vv_p0, Option.map_some, ev_ofs, e1', vv_add, r]
  obtain ⟨us, S2, e2, l2, p2, hS2⟩ := lc_drw (cf := run Δ (n + 5)) (B := B) (P := frP 12) (ρ := wipeR ρ [8]) (i := 8) (e := .call 24 [(.v 1)]) (rngL 0 (1 + v).toNat) S1 hS1 fun d hd S hS => by
    obtain ⟨d', S', q1, q2, q3⟩ := frac_run (n := n + 1) (B := []) hS
    refine ⟨d', S', ?_, q2, q3⟩
    have h1' : ((wipeR ρ [8]).set 8 (some (.dat d)))[1]? = some (some .st) := by
      show ((ρ.set 8 none).set 8 (some (.dat d)))[1]? = _
      rw [List.getElem?_set_ne (by omega), List.getElem?_set_ne (by omega)]
      exact h1
    simp only [ev_call, ev_cons, ev_nil, ev_v h1', ev_bok, vv_ps, vv_p0, Option.map_some, ev_ofs, q1]
  have hl : (rngL 0 (1 + v).toNat).length = (1 + v).toNat := rngL_len _ _
  have hz : us.length ≤ 1000000 := by omega
  refine ⟨.tuple us, S2, ?_, ⟨us, rfl, ?_, by omega, p2⟩, hS2⟩
  · have bt : bltE B S2 .tuple [.dat (.list us)] = some (.dat (.tuple us)) := rfl
    simp only [ev_blt, ev_cons, ev_nil, ev_lc, src, ev_bok, e2, ev_str, lenOk_eq, hz, decide_true, if_true, bt, ev_ofs, vv_do]
  · intro e
    subst e
    simp at l2
    omega
theorem beats_nilL {b : D} : run Δ (n + 5) 11 [.dat (.tuple []), .dat b] B S = .exc 0 S := by
  have h := check_nil (n := n + 3) (B := []) (S := S)
  rw [run_at (d := d11) rfl rfl]
  simp [d11, h]
theorem beats_nilR (h0 : xs ≠ []) (h1 : xs.length ≤ 8) : run Δ (n + 5) 11 [.dat (.tuple xs), .dat (.tuple [])] B S = .exc 0 S := by
  have h := check_nil (n := n + 3) (B := []) (S := S)
  have h2 := check_ok (n := n + 3) (B := []) (S := S) h0 h1
  rw [run_at (d := d11) rfl rfl]
  simp [d11, h, h2]
abbrev askB : List Sm := [.set 9 (.ite (.cmp .lt (.v 8) (.c (.int 8))) (.call 20 [(.v 1), (.v 6)]) (.sub (.v 2) (.bin .sub (.v 8) (.c (.int 8))))), .ite (.not (.call 14 [(.call 12 [(.v 4), (.v 5), (.v 9)]), (.call 25 [(.v 4), (.v 5), (.v 9)])])) [.ret (.c (.bool false))] []]
abbrev lawR (seen : List D) (o3 : Option EV) (xs ys : List D) (nr : D) (o8 o9 : Option EV) : Rho := [none, some .st, some (.dat (.list seen)), o3, some (.dat (.tuple xs)), some (.dat (.tuple ys)), some (.dat (due xs ys)), some (.dat nr), o8, o9]
theorem ask_loop (hx : ∀ d ∈ xs, frP 12 d) (hy : ∀ d ∈ ys, frP 12 d) (x0 : xs ≠ []) (y0 : ys ≠ []) (x1 : xs.length ≤ 4) (y1 : ys.length ≤ 4) {seen : List D} (hs : ∀ d ∈ seen, Ok 4 d) {o3 : Option EV} {nr : D} : ∀ (r k : Nat) (o8 o9 : Option EV) (S : Sta), StaOk S → k + r = 8 + seen.length → ∃ o8' o9' S', forR (run Δ 60) B (.v 8) askB (rngL k r) (lawR seen o3 xs ys nr o8 o9) S = .nx (lawR seen o3 xs ys nr o8' o9') S' ∧ StaOk S'
  | 0, k, o8, o9, S, hS, _ => ⟨o8, o9, S, rfl, hS⟩
  | r + 1, k, o8, o9, S, hS, h => by
    have hb : xs.length * ys.length ≤ 64 := Nat.le_trans (Nat.mul_le_mul x1 y1) (by omega)
    have hp : 0 < xs.length * ys.length := Nat.mul_pos (List.length_pos_iff.mpr x0) (List.length_pos_iff.mpr y0)
    -- what is asked
    obtain ⟨t, S1, e1, ht, hS1⟩ : ∃ t S1, eE (run Δ 60) B (.ite (.cmp .lt (.v 8) (.c (.int 8))) (.call 20 [(.v 1), (.v 6)]) (.sub (.v 2) (.bin .sub (.v 8) (.c (.int 8))))) (lawR seen o3 xs ys nr (some (.dat (.int k))) o9) S = .ok (.dat t) S1 ∧ Ok 4 t ∧ StaOk S1 := by
      cases hz : decide ((k : Int) < 8) with
      | true =>
        obtain ⟨t, S1, e, p, q⟩ := odd_run (I := I) (B := []) hNext hInts hExch hCut hTurn hChg hOdd (due_tld hb hp) (by omega) (m := 60) (by omega) hS
        have e' : run Δ 60 20 [.st, .dat (due xs ys)] [] S = .ok t S1 := e
        refine ⟨t, S1, ?_, p, q⟩
        simp only [ev_ite, ev_cmp, ev_v0, ev_vs, ev_bok, ev_c, vv_lt, hz, Option.map_some, ev_ofs, vv_tb, if_true, ev_call, ev_cons, ev_nil, vv_ps, vv_pd, vv_p0, e']
      | false =>
        have hk : 8 ≤ k := by
          have := of_decide_eq_false hz
          omega
        have hi : k - 8 < seen.length := by omega
        refine ⟨seen[k - 8], S, ?_, hs _ (List.getElem_mem hi), hS⟩
        have hat := at_nat (xs := seen) (k := k - 8) (d := seen[k - 8]) (List.getElem?_eq_getElem hi)
        have ek : (((k - 8 : Nat) : Nat) : Int) = (k : Int) - 8 := by omega
        rw [ek] at hat
        simp only [ev_ite, ev_cmp, ev_v0, ev_vs, ev_bok, ev_c, vv_lt, hz, Option.map_some, ev_ofs, vv_tb, Bool.false_eq_true, if_false, ev_sub, ev_bin, vv_sub, vv_subl, hat]
    obtain ⟨b1, j1, i1⟩ := judge_ok (n := 54) (B := []) (S := S1) (k := 12) (by omega) hx hy x0 y0 (by omega) (by omega) ht
    obtain ⟨b2, j2, i2⟩ := accepts_ok (n := 54) (B := []) (S := S1) (k := 12) (by omega) hx hy x0 y0 (by omega) (by omega) ht
    obtain ⟨b3, j3, i3⟩ := same_run (I := I) (S := S1) hSame 0 (.bool b2) (.bl b2) 0 (.bool b1) (.bl b1) 60 [] (by omega)
    have j3' : run Δ 60 14 [.dat (.bool b1), .dat (.bool b2)] [] S1 = .ok (.bool b3) S1 := j3
    have e12 : b1 = b2 := Bool.eq_iff_iff.mpr (i1.trans i2.symm)
    have e3 : b3 = true := i3.mpr (by rw [e12])
    rw [e3] at j3'
    have hc : eT (run Δ 60) B (.not (.call 14 [(.call 12 [(.v 4), (.v 5), (.v 9)]), (.call 25 [(.v 4), (.v 5), (.v 9)])])) (lawR seen o3 xs ys nr (some (.dat (.int k))) (some (.dat t))) S1 = .ok false S1 := by
      unfold eT
      simp only [ev_not, ev_call, ev_cons, ev_nil, ev_v0, ev_vs, ev_bok, vv_pd, vv_p0, Option.map_some, ev_ofs, j1, j2, j3', vv_tb, Bool.not_true]
    obtain ⟨o8', o9', S2, e4, hS2⟩ := ask_loop hx hy x0 y0 x1 y1 hs (o3 := o3) (nr := nr) r (k + 1) (some (.dat (.int k))) (some (.dat t)) S1 hS1 (by omega)
    refine ⟨o8', o9', S2, ?_, hS2⟩
    have e0 : rngL (k : Int) (r + 1) = .int k :: rngL ((k + 1 : Nat) : Int) r := rfl
    rw [e0, forR_cons]
    simp only [bp_v, List.set_cons_succ, List.set_cons_zero]
    rw [w_set e1]
    simp only [List.set_cons_succ, List.set_cons_zero]
    rw [w_ifF hc, xv_nil]
    exact e4
/-- the slots between two turns -/
def Shp (m : Nat) (ρ : Rho) : Prop := ∃ seen o3 o4 o5 o6 o7 o8 o9, ρ = [none, some .st, some (.dat (.list seen)), o3, o4, o5, o6, o7, o8, o9] ∧ seen.length ≤ m ∧ ∀ d ∈ seen, Ok 4 d
abbrev turnB : List Sm := [.set 4 (.blt .tuple [(.lc [8] (.v 8) (.rng1 (.bin .add (.c (.int 1)) (.call 13 [(.v 1), (.c (.int 4))]))) [] (.call 24 [(.v 1)]))]), .set 5 (.blt .tuple [(.lc [8] (.v 8) (.rng1 (.bin .add (.c (.int 1)) (.call 13 [(.v 1), (.c (.int 4))]))) [] (.call 24 [(.v 1)]))]), .set 6 (.call 11 [(.v 4), (.v 5)]), .set 7 (.call 28 [(.v 1), (.v 4), (.v 5)]), .ite (.ors [(.not (.call 25 [(.v 4), (.v 5), (.v 6)])), (.cmp .isnt (.call 12 [(.v 4), (.v 5), (.v 6)]) (.c (.bool true)))]) [.ret (.c (.bool false))] [], .ite (.ors [(.not (.call 26 [(.tup []), (.v 5)])), (.not (.call 26 [(.v 4), (.tup [])]))]) [.ret (.c (.bool false))] [], .set 2 (.bin .add (.slcL (.v 2) (.neg (.c (.int 3)))) (.lst [(.v 6), (.v 7)])), .for (.v 8) (.rng1 (.bin .add (.c (.int 8)) (.blt .len [(.v 2)]))) askB]
theorem row_at {ρ : Rho} {e : Ex} {S : Sta} {P : D → Prop} (h : Gv ((eE (run Δ 60) B e ρ S).bind fun v S1 => Res.of (datE v) S1) P) : ∃ d S1, eE (run Δ 60) B e ρ S = .ok (.dat d) S1 ∧ P d ∧ StaOk S1 := by
  obtain ⟨d, S1, e1, p, q⟩ := h
  obtain ⟨v, S2, e2, e3⟩ := Res.bind_ok e1
  cases v with
  | dat d' =>
    cases e3
    exact ⟨d, S1, e2, p, q⟩
  | _ => cases e3
theorem turn {m : Nat} {ρ : Rho} (h : Shp m ρ) (hm : m ≤ 100) (hS : StaOk S) (t : D) : ∃ ρ' S', xSs (run Δ 60) B turnB (ρ.set 3 (some (.dat t))) S = .nx ρ' S' ∧ Shp (m + 2) ρ' ∧ StaOk S' := by
  obtain ⟨seen, o3, o4, o5, o6, o7, o8, o9, rfl, hl, hs⟩ := h
  simp only [List.set_cons_succ, List.set_cons_zero]
  obtain ⟨_, S1, e1, ⟨xs, rfl, x0, x1, hx⟩, hS1⟩ := row_at (row_run (n := 55) (B := B) (ρ := [none, some .st, some (.dat (.list seen)), some (.dat t), o4, o5, o6, o7, o8, o9]) hS rfl rfl (.inr trivial))
  obtain ⟨_, S2, e2, ⟨ys, rfl, y0, y1, hy⟩, hS2⟩ := row_at (row_run (n := 55) (B := B) (ρ := [none, some .st, some (.dat (.list seen)), some (.dat t), some (.dat (.tuple xs)), o5, o6, o7, o8, o9]) hS1 rfl rfl (.inr trivial))
  have hb : xs.length * ys.length ≤ 64 := Nat.le_trans (Nat.mul_le_mul x1 y1) (by omega)
  have bt := beats_ok (n := 55) (B := []) (S := S2) (k := 12) (by omega) hx hy x0 y0 (by omega) (by omega)
  obtain ⟨nr, S3, e3, p3, hS3⟩ := near_run (n := 53) (B := []) hS2 hx hy (by omega) (by omega)
  obtain ⟨b1, j1, i1⟩ := judge_ok (n := 54) (B := []) (S := S3) (k := 12) (by omega) hx hy x0 y0 (by omega) (by omega) (due_ok (xs := xs) (ys := ys))
  obtain ⟨b2, j2, i2⟩ := accepts_ok (n := 54) (B := []) (S := S3) (k := 12) (by omega) hx hy x0 y0 (by omega) (by omega) (due_ok (xs := xs) (ys := ys))
  have t1 : b1 = true := i1.mpr rfl
  have t2 : b2 = true := i2.mpr rfl
  rw [t1] at j1
  rw [t2] at j2
  have u1 := unfit_run (n := 53) (B := []) (S := S3) (a := .tuple []) (b := .tuple ys) fun n S => beats_nilL
  have u2 := unfit_run (n := 53) (B := []) (S := S3) (a := .tuple xs) (b := .tuple []) fun n S => beats_nilR x0 (by omega)
  have bt' : eE (run Δ 60) B (.call 11 [(.v 4), (.v 5)]) [none, some .st, some (.dat (.list seen)), some (.dat t), some (.dat (.tuple xs)), some (.dat (.tuple ys)), o6, o7, o8, o9] S2 = .ok (.dat (due xs ys)) S2 := by
    simp only [ev_call, ev_cons, ev_nil, ev_v0, ev_vs, ev_bok, vv_pd, vv_p0, Option.map_some, ev_ofs, bt]
  have e3' : eE (run Δ 60) B (.call 28 [(.v 1), (.v 4), (.v 5)]) [none, some .st, some (.dat (.list seen)), some (.dat t), some (.dat (.tuple xs)), some (.dat (.tuple ys)), some (.dat (due xs ys)), o7, o8, o9] S2 = .ok (.dat nr) S3 := by
    simp only [ev_call, ev_cons, ev_nil, ev_v0, ev_vs, ev_bok, vv_ps, vv_pd, vv_p0, Option.map_some, ev_ofs, e3]
  have hc1 : eT (run Δ 60) B (.ors [(.not (.call 25 [(.v 4), (.v 5), (.v 6)])), (.cmp .isnt (.call 12 [(.v 4), (.v 5), (.v 6)]) (.c (.bool true)))]) (lawR seen (some (.dat t)) xs ys nr o8 o9) S3 = .ok false S3 := by
    have z : cmpE B .isnt (.dat (.bool true)) (.dat (.bool true)) = some false := rfl
    unfold eT
    simp only [ev_ors, ev_ors1, ev_not, ev_cmp, ev_call, ev_cons, ev_nil, ev_v0, ev_vs, ev_bok, ev_c, vv_pd, vv_p0, Option.map_some, ev_ofs, j1, j2, vv_tb, Bool.not_true, Bool.false_eq_true, if_false, z]
  have hc2 : eT (run Δ 60) B (.ors [(.not (.call 26 [(.tup []), (.v 5)])), (.not (.call 26 [(.v 4), (.tup [])]))]) (lawR seen (some (.dat t)) xs ys nr o8 o9) S3 = .ok false S3 := by
    have tn : ∀ (ρ : Rho) (S : Sta), eE (run Δ 60) B (.tup []) ρ S = .ok (.dat (.tuple [])) S := fun _ _ => rfl
    unfold eT
    simp only [ev_ors, ev_ors1, ev_not, ev_call, ev_cons, ev_nil, ev_v0, ev_vs, ev_bok, tn, vv_pd, vv_p0, Option.map_some, ev_ofs, u1, u2, vv_tb, Bool.not_true, Bool.false_eq_true, if_false]
  have cl : (cutL seen (some (-3)) none).length ≤ m := Nat.le_trans cut_len hl
  have e4 : eE (run Δ 60) B (.bin .add (.slcL (.v 2) (.neg (.c (.int 3)))) (.lst [(.v 6), (.v 7)])) (lawR seen (some (.dat t)) xs ys nr o8 o9) S3 = .ok (.dat (.list (cutL seen (some (-3)) none ++ [due xs ys, nr]))) S3 := by
    have sl : slcE B (.dat (.list seen)) (some (-3)) none = some (.dat (.list (cutL seen (some (-3)) none))) := rfl
    have ad : binE B .add (.dat (.list (cutL seen (some (-3)) none))) (.dat (.list [due xs ys, nr])) = some (.dat (.list (cutL seen (some (-3)) none ++ [due xs ys, nr]))) := by
      show (if lenOk ((cutL seen (some (-3)) none).length + 2) = true then _ else _) = _
      rw [if_pos (by rw [lenOk_eq]; simp; omega)]
    simp only [ev_bin, ev_slcL, ev_v0, ev_vs, ev_bok, ev_neg, ev_c, vv_io, Option.map_some, ev_ofs, Option.bind_some, sl, ev_lst, ev_cons, ev_nil, vv_d1, vv_d0, List.length_cons, List.length_nil, lenOk_eq]
    rw [if_pos (by simp)]
    simp only [ev_ofs, ev_bok, ad]
  have hs2 : ∀ d ∈ cutL seen (some (-3)) none ++ [due xs ys, nr], Ok 4 d := fun d hd => by
    rcases List.mem_append.mp hd with q | q
    · exact hs d (cut_mem q)
    · simp only [List.mem_cons, List.not_mem_nil, or_false] at q
      rcases q with rfl | rfl
      · exact due_ok.mono (by omega)
      · exact p3.mono (by omega)
  have ln : (cutL seen (some (-3)) none ++ [due xs ys, nr]).length ≤ m + 2 := by
    rw [List.length_append]
    simp
    omega
  generalize cutL seen (some (-3)) none ++ [due xs ys, nr] = seen2 at e4 hs2 ln
  obtain ⟨o8', o9', S4, e5, hS4⟩ := ask_loop (B := B) hx hy x0 y0 x1 y1 hs2 (o3 := some (.dat t)) (nr := nr) (8 + seen2.length) 0 o8 o9 S3 hS3 (by omega)
  refine ⟨lawR seen2 (some (.dat t)) xs ys nr o8' o9', S4, ?_, ⟨seen2, _, _, _, _, _, _, _, rfl, ln, hs2⟩, hS4⟩
  have src : eSrc (run Δ 60) B true (.rng1 (.bin .add (.c (.int 8)) (.blt .len [(.v 2)]))) (lawR seen2 (some (.dat t)) xs ys nr o8 o9) S3 = .ok (rngL 0 (8 + seen2.length)) S3 := by
    have r := rng1_nat (k := 8 + seen2.length) (by omega)
    have ec : (((8 + seen2.length : Nat) : Nat) : Int) = 8 + (seen2.length : Int) := by omega
    rw [ec] at r
    simp only [ev_srng1, ev_bin, ev_c, ev_bok, ev_blt, ev_cons, ev_nil, ev_v0, ev_vs, vv_lenl, ev_ofs, vv_add, r]
  show xSs (run Δ 60) B (.set 4 _ :: .set 5 _ :: .set 6 _ :: .set 7 _ :: .ite _ _ _ :: .ite _ _ _ :: .set 2 _ :: [.for _ _ _]) _ S = _
  rw [w_set e1]
  simp only [List.set_cons_succ, List.set_cons_zero]
  rw [w_set e2]
  simp only [List.set_cons_succ, List.set_cons_zero]
  rw [w_set bt']
  simp only [List.set_cons_succ, List.set_cons_zero]
  rw [w_set e3']
  simp only [List.set_cons_succ, List.set_cons_zero]
  rw [w_ifF hc1, w_ifF hc2, w_set e4]
  simp only [List.set_cons_succ, List.set_cons_zero]
  rw [xv_cons, xv_for, src, ev_ook]
  have e5' : forR (run Δ 60) B (.v 8) askB (rngL 0 (8 + seen2.length)) (lawR seen2 (some (.dat t)) xs ys nr o8 o9) S3 = _ := e5
  rw [e5']
  rfl
end
def most : Nat := 63
def depth : Nat := 60
theorem plain : ∀ ns : List Int, ns.length ≤ most → ∃ S, xSs (run Γ.Δ depth) [] lawRest (rho0 lawN lawJ) (sta0 ns) = .rt (.bool true) S := by
  intro ns _
  have hS : StaOk (sta0 ns) := ⟨ns, 0, 0, 1, rfl, by omega, by omega, by omega, by omega⟩
  show ∃ S, xSs (run Δ 60) [] (.set 2 (.lst []) :: .for (.v 3) (.rng1 (.c (.int 3))) turnB :: [.ret (.c (.bool true))]) [none, some .st, none, none, none, none, none, none, none, none] (sta0 ns) = .rt (.bool true) S
  rw [w_set (d := .list []) (S' := sta0 ns) rfl]
  simp only [List.set_cons_succ, List.set_cons_zero]
  have h0 : Shp 0 [none, some .st, some (.dat (.list [])), none, none, none, none, none, none, none] := ⟨[], _, _, _, _, _, _, _, rfl, by simp, fun _ h => by cases h⟩
  obtain ⟨ρ1, S1, e1, h1, hS1⟩ := turn (B := []) h0 (by omega) hS (.int 0)
  obtain ⟨ρ2, S2, e2, h2, hS2⟩ := turn (B := []) h1 (by omega) hS1 (.int 1)
  obtain ⟨ρ3, S3, e3, h3, hS3⟩ := turn (B := []) h2 (by omega) hS2 (.int 2)
  refine ⟨S3, ?_⟩
  have src : eSrc (run Δ 60) [] true (.rng1 (.c (.int 3))) [none, some .st, some (.dat (.list [])), none, none, none, none, none, none, none] (sta0 ns) = .ok [.int 0, .int 1, .int 2] (sta0 ns) := rfl
  rw [xv_cons, xv_for, src, ev_ook, forR_cons, bp_v]
  simp only []
  rw [e1]
  simp only []
  rw [forR_cons, bp_v]
  simp only []
  rw [e2]
  simp only []
  rw [forR_cons, bp_v]
  simp only []
  rw [e3]
  simp only [forR_nil, ev_snx]
  rfl

theorem all_mk {K : PySem.W.Frag} {h : Heap} {mg : Str → Option Value} {fa A0 A1 : Addr} (X : K.In h) (G : h.Ns mainGlobals mg) (hfa : mg "law" = some (.ref fa))
    {f0 f1 f2 f3 f4 f5 f6 f7 f8 f9 f10 f11 f12 f13 f14 f15 f16 f17 f18 f19 f20 f21 f22 f23 f24 f25 f26 f27 f28 fL : Addr} {od0 an0 od1 an1 od2 an2 od3 an3 od4 an4 od5 an5 od6 an6 od7 an7 od8 an8 od9 an9 od10 an10 od11 an11 od12 an12 od13 an13 od14 an14 od15 an15 od16 an16 od17 an17 od18 an18 od19 an19 od20 an20 od21 an21 od22 an22 od23 an23 od24 an24 od25 an25 od26 an26 od27 an27 od28 an28 odL anL : Option Addr} {sl0 sl1 sl2 sl3 sl4 sl5 sl6 sl7 sl8 sl9 sl10 sl11 sl12 sl13 sl14 sl15 sl16 sl17 sl18 sl19 sl20 sl21 sl22 sl23 sl24 sl25 sl26 sl27 sl28 slL : Array (Option Value)} {oc0 kV0 dc0 pm0 cd0 ct0 oc1 kV1 dc1 pm1 cd1 ct1 oc2 kV2 dc2 pm2 cd2 ct2 oc3 kV3 dc3 pm3 cd3 ct3 oc4 kV4 dc4 pm4 cd4 ct4 oc5 kV5 dc5 pm5 cd5 ct5 oc6 kV6 dc6 pm6 cd6 ct6 oc7 kV7 dc7 pm7 cd7 ct7 oc8 kV8 dc8 pm8 cd8 ct8 oc9 kV9 dc9 pm9 cd9 ct9 oc10 kV10 dc10 pm10 cd10 ct10 oc11 kV11 dc11 pm11 cd11 ct11 oc12 kV12 dc12 pm12 cd12 ct12 oc13 kV13 dc13 pm13 cd13 ct13 oc14 kV14 dc14 pm14 cd14 ct14 oc15 kV15 dc15 pm15 cd15 ct15 oc16 kV16 dc16 pm16 cd16 ct16 oc17 kV17 dc17 pm17 cd17 ct17 oc18 kV18 dc18 pm18 cd18 ct18 oc19 kV19 dc19 pm19 cd19 ct19 oc20 kV20 dc20 pm20 cd20 ct20 oc21 kV21 dc21 pm21 cd21 ct21 oc22 kV22 dc22 pm22 cd22 ct22 oc23 kV23 dc23 pm23 cd23 ct23 oc24 kV24 dc24 pm24 cd24 ct24 oc25 kV25 dc25 pm25 cd25 ct25 oc26 kV26 dc26 pm26 cd26 ct26 oc27 kV27 dc27 pm27 cd27 ct27 oc28 kV28 dc28 pm28 cd28 ct28 ocL kVL dcL pmL cdL ctL : Value}
    (a0 : PySem.W.nsIn K mainGlobals "is_whole" = some (some (.ref f0))) (l0 : K.lookup f0 = some ⟨oc0, od0, .func (PySem.W.fnOf "is_whole" "is_whole" (defArgs s0) (defBody s0) (defScope s0) .none kV0 dc0 pm0 an0 cd0 ct0), sl0⟩) (c0 : PySem.W.codeIn K cd0 "is_whole" = true) (k0 : PySem.W.keepIn K (.ref f0) = true)
    (a1 : PySem.W.nsIn K mainGlobals "is_told" = some (some (.ref f1))) (l1 : K.lookup f1 = some ⟨oc1, od1, .func (PySem.W.fnOf "is_told" "is_told" (defArgs s1) (defBody s1) (defScope s1) .none kV1 dc1 pm1 an1 cd1 ct1), sl1⟩) (c1 : PySem.W.codeIn K cd1 "is_told" = true) (k1 : PySem.W.keepIn K (.ref f1) = true)
    (a2 : PySem.W.nsIn K mainGlobals "divisor" = some (some (.ref f2))) (l2 : K.lookup f2 = some ⟨oc2, od2, .func (PySem.W.fnOf "divisor" "divisor" (defArgs s2) (defBody s2) (defScope s2) .none kV2 dc2 pm2 an2 cd2 ct2), sl2⟩) (c2 : PySem.W.codeIn K cd2 "divisor" = true) (k2 : PySem.W.keepIn K (.ref f2) = true)
    (a3 : PySem.W.nsIn K mainGlobals "ratio" = some (some (.ref f3))) (l3 : K.lookup f3 = some ⟨oc3, od3, .func (PySem.W.fnOf "ratio" "ratio" (defArgs s3) (defBody s3) (defScope s3) .none kV3 dc3 pm3 an3 cd3 ct3), sl3⟩) (c3 : PySem.W.codeIn K cd3 "ratio" = true) (k3 : PySem.W.keepIn K (.ref f3) = true)
    (a4 : PySem.W.nsIn K mainGlobals "mul" = some (some (.ref f4))) (l4 : K.lookup f4 = some ⟨oc4, od4, .func (PySem.W.fnOf "mul" "mul" (defArgs s4) (defBody s4) (defScope s4) .none kV4 dc4 pm4 an4 cd4 ct4), sl4⟩) (c4 : PySem.W.codeIn K cd4 "mul" = true) (k4 : PySem.W.keepIn K (.ref f4) = true)
    (a5 : PySem.W.nsIn K mainGlobals "div" = some (some (.ref f5))) (l5 : K.lookup f5 = some ⟨oc5, od5, .func (PySem.W.fnOf "div" "div" (defArgs s5) (defBody s5) (defScope s5) .none kV5 dc5 pm5 an5 cd5 ct5), sl5⟩) (c5 : PySem.W.codeIn K cd5 "div" = true) (k5 : PySem.W.keepIn K (.ref f5) = true)
    (a6 : PySem.W.nsIn K mainGlobals "less" = some (some (.ref f6))) (l6 : K.lookup f6 = some ⟨oc6, od6, .func (PySem.W.fnOf "less" "less" (defArgs s6) (defBody s6) (defScope s6) .none kV6 dc6 pm6 an6 cd6 ct6), sl6⟩) (c6 : PySem.W.codeIn K cd6 "less" = true) (k6 : PySem.W.keepIn K (.ref f6) = true)
    (a7 : PySem.W.nsIn K mainGlobals "whole" = some (some (.ref f7))) (l7 : K.lookup f7 = some ⟨oc7, od7, .func (PySem.W.fnOf "whole" "whole" (defArgs s7) (defBody s7) (defScope s7) .none kV7 dc7 pm7 an7 cd7 ct7), sl7⟩) (c7 : PySem.W.codeIn K cd7 "whole" = true) (k7 : PySem.W.keepIn K (.ref f7) = true)
    (a8 : PySem.W.nsIn K mainGlobals "is_fraction" = some (some (.ref f8))) (l8 : K.lookup f8 = some ⟨oc8, od8, .func (PySem.W.fnOf "is_fraction" "is_fraction" (defArgs s8) (defBody s8) (defScope s8) .none kV8 dc8 pm8 an8 cd8 ct8), sl8⟩) (c8 : PySem.W.codeIn K cd8 "is_fraction" = true) (k8 : PySem.W.keepIn K (.ref f8) = true)
    (a9 : PySem.W.nsIn K mainGlobals "are_fractions" = some (some (.ref f9))) (l9 : K.lookup f9 = some ⟨oc9, od9, .func (PySem.W.fnOf "are_fractions" "are_fractions" (defArgs s9) (defBody s9) (defScope s9) .none kV9 dc9 pm9 an9 cd9 ct9), sl9⟩) (c9 : PySem.W.codeIn K cd9 "are_fractions" = true) (k9 : PySem.W.keepIn K (.ref f9) = true)
    (a10 : PySem.W.nsIn K mainGlobals "check_dice" = some (some (.ref f10))) (l10 : K.lookup f10 = some ⟨oc10, od10, .func (PySem.W.fnOf "check_dice" "check_dice" (defArgs s10) (defBody s10) (defScope s10) .none kV10 dc10 pm10 an10 cd10 ct10), sl10⟩) (c10 : PySem.W.codeIn K cd10 "check_dice" = true) (k10 : PySem.W.keepIn K (.ref f10) = true)
    (a11 : PySem.W.nsIn K mainGlobals "beats" = some (some (.ref f11))) (l11 : K.lookup f11 = some ⟨oc11, od11, .func (PySem.W.fnOf "beats" "beats" (defArgs s11) (defBody s11) (defScope s11) .none kV11 dc11 pm11 an11 cd11 ct11), sl11⟩) (c11 : PySem.W.codeIn K cd11 "beats" = true) (k11 : PySem.W.keepIn K (.ref f11) = true)
    (a12 : PySem.W.nsIn K mainGlobals "judge_beats" = some (some (.ref f12))) (l12 : K.lookup f12 = some ⟨oc12, od12, .func (PySem.W.fnOf "judge_beats" "judge_beats" (defArgs s12) (defBody s12) (defScope s12) .none kV12 dc12 pm12 an12 cd12 ct12), sl12⟩) (c12 : PySem.W.codeIn K cd12 "judge_beats" = true) (k12 : PySem.W.keepIn K (.ref f12) = true)
    (a13 : PySem.W.nsIn K mainGlobals "_law_next" = some (some (.ref f13))) (l13 : K.lookup f13 = some ⟨oc13, od13, .func (PySem.W.fnOf "_law_next" "_law_next" (defArgs s13) (defBody s13) (defScope s13) .none kV13 dc13 pm13 an13 cd13 ct13), sl13⟩) (c13 : PySem.W.codeIn K cd13 "_law_next" = true) (k13 : PySem.W.keepIn K (.ref f13) = true)
    (a14 : PySem.W.nsIn K mainGlobals "_law_same" = some (some (.ref f14))) (l14 : K.lookup f14 = some ⟨oc14, od14, .func (PySem.W.fnOf "_law_same" "_law_same" (defArgs s14) (defBody s14) (defScope s14) .none kV14 dc14 pm14 an14 cd14 ct14), sl14⟩) (c14 : PySem.W.codeIn K cd14 "_law_same" = true) (k14 : PySem.W.keepIn K (.ref f14) = true)
    (a15 : PySem.W.nsIn K mainGlobals "_law_changed" = some (some (.ref f15))) (l15 : K.lookup f15 = some ⟨oc15, od15, .func (PySem.W.fnOf "_law_changed" "_law_changed" (defArgs s15) (defBody s15) (defScope s15) .none kV15 dc15 pm15 an15 cd15 ct15), sl15⟩) (c15 : PySem.W.codeIn K cd15 "_law_changed" = true) (k15 : PySem.W.keepIn K (.ref f15) = true)
    (a16 : PySem.W.nsIn K mainGlobals "_law_ints" = some (some (.ref f16))) (l16 : K.lookup f16 = some ⟨oc16, od16, .func (PySem.W.fnOf "_law_ints" "_law_ints" (defArgs s16) (defBody s16) (defScope s16) .none kV16 dc16 pm16 an16 cd16 ct16), sl16⟩) (c16 : PySem.W.codeIn K cd16 "_law_ints" = true) (k16 : PySem.W.keepIn K (.ref f16) = true)
    (a17 : PySem.W.nsIn K mainGlobals "_law_exchanged" = some (some (.ref f17))) (l17 : K.lookup f17 = some ⟨oc17, od17, .func (PySem.W.fnOf "_law_exchanged" "_law_exchanged" (defArgs s17) (defBody s17) (defScope s17) .none kV17 dc17 pm17 an17 cd17 ct17), sl17⟩) (c17 : PySem.W.codeIn K cd17 "_law_exchanged" = true) (k17 : PySem.W.keepIn K (.ref f17) = true)
    (a18 : PySem.W.nsIn K mainGlobals "_law_cut" = some (some (.ref f18))) (l18 : K.lookup f18 = some ⟨oc18, od18, .func (PySem.W.fnOf "_law_cut" "_law_cut" (defArgs s18) (defBody s18) (defScope s18) .none kV18 dc18 pm18 an18 cd18 ct18), sl18⟩) (c18 : PySem.W.codeIn K cd18 "_law_cut" = true) (k18 : PySem.W.keepIn K (.ref f18) = true)
    (a19 : PySem.W.nsIn K mainGlobals "_law_turned_about" = some (some (.ref f19))) (l19 : K.lookup f19 = some ⟨oc19, od19, .func (PySem.W.fnOf "_law_turned_about" "_law_turned_about" (defArgs s19) (defBody s19) (defScope s19) .none kV19 dc19 pm19 an19 cd19 ct19), sl19⟩) (c19 : PySem.W.codeIn K cd19 "_law_turned_about" = true) (k19 : PySem.W.keepIn K (.ref f19) = true)
    (a20 : PySem.W.nsIn K mainGlobals "_law_odd" = some (some (.ref f20))) (l20 : K.lookup f20 = some ⟨oc20, od20, .func (PySem.W.fnOf "_law_odd" "_law_odd" (defArgs s20) (defBody s20) (defScope s20) .none kV20 dc20 pm20 an20 cd20 ct20), sl20⟩) (c20 : PySem.W.codeIn K cd20 "_law_odd" = true) (k20 : PySem.W.keepIn K (.ref f20) = true)
    (a21 : PySem.W.nsIn K mainGlobals "_law_gcd" = some (some (.ref f21))) (l21 : K.lookup f21 = some ⟨oc21, od21, .func (PySem.W.fnOf "_law_gcd" "_law_gcd" (defArgs s21) (defBody s21) (defScope s21) .none kV21 dc21 pm21 an21 cd21 ct21), sl21⟩) (c21 : PySem.W.codeIn K cd21 "_law_gcd" = true) (k21 : PySem.W.keepIn K (.ref f21) = true)
    (a22 : PySem.W.nsIn K mainGlobals "_law_of" = some (some (.ref f22))) (l22 : K.lookup f22 = some ⟨oc22, od22, .func (PySem.W.fnOf "_law_of" "_law_of" (defArgs s22) (defBody s22) (defScope s22) .none kV22 dc22 pm22 an22 cd22 ct22), sl22⟩) (c22 : PySem.W.codeIn K cd22 "_law_of" = true) (k22 : PySem.W.keepIn K (.ref f22) = true)
    (a23 : PySem.W.nsIn K mainGlobals "_law_less" = some (some (.ref f23))) (l23 : K.lookup f23 = some ⟨oc23, od23, .func (PySem.W.fnOf "_law_less" "_law_less" (defArgs s23) (defBody s23) (defScope s23) .none kV23 dc23 pm23 an23 cd23 ct23), sl23⟩) (c23 : PySem.W.codeIn K cd23 "_law_less" = true) (k23 : PySem.W.keepIn K (.ref f23) = true)
    (a24 : PySem.W.nsIn K mainGlobals "_law_fraction" = some (some (.ref f24))) (l24 : K.lookup f24 = some ⟨oc24, od24, .func (PySem.W.fnOf "_law_fraction" "_law_fraction" (defArgs s24) (defBody s24) (defScope s24) .none kV24 dc24 pm24 an24 cd24 ct24), sl24⟩) (c24 : PySem.W.codeIn K cd24 "_law_fraction" = true) (k24 : PySem.W.keepIn K (.ref f24) = true)
    (a25 : PySem.W.nsIn K mainGlobals "_law_accepts" = some (some (.ref f25))) (l25 : K.lookup f25 = some ⟨oc25, od25, .func (PySem.W.fnOf "_law_accepts" "_law_accepts" (defArgs s25) (defBody s25) (defScope s25) .none kV25 dc25 pm25 an25 cd25 ct25), sl25⟩) (c25 : PySem.W.codeIn K cd25 "_law_accepts" = true) (k25 : PySem.W.keepIn K (.ref f25) = true)
    (a26 : PySem.W.nsIn K mainGlobals "_law_unfit" = some (some (.ref f26))) (l26 : K.lookup f26 = some ⟨oc26, od26, .func (PySem.W.fnOf "_law_unfit" "_law_unfit" (defArgs s26) (defBody s26) (defScope s26) .none kV26 dc26 pm26 an26 cd26 ct26), sl26⟩) (c26 : PySem.W.codeIn K cd26 "_law_unfit" = true) (k26 : PySem.W.keepIn K (.ref f26) = true)
    (a27 : PySem.W.nsIn K mainGlobals "_law_neighbour" = some (some (.ref f27))) (l27 : K.lookup f27 = some ⟨oc27, od27, .func (PySem.W.fnOf "_law_neighbour" "_law_neighbour" (defArgs s27) (defBody s27) (defScope s27) .none kV27 dc27 pm27 an27 cd27 ct27), sl27⟩) (c27 : PySem.W.codeIn K cd27 "_law_neighbour" = true) (k27 : PySem.W.keepIn K (.ref f27) = true)
    (a28 : PySem.W.nsIn K mainGlobals "_law_told_near" = some (some (.ref f28))) (l28 : K.lookup f28 = some ⟨oc28, od28, .func (PySem.W.fnOf "_law_told_near" "_law_told_near" (defArgs s28) (defBody s28) (defScope s28) .none kV28 dc28 pm28 an28 cd28 ct28), sl28⟩) (c28 : PySem.W.codeIn K cd28 "_law_told_near" = true) (k28 : PySem.W.keepIn K (.ref f28) = true)
    (aL : PySem.W.nsIn K mainGlobals "law" = some (some (.ref fL))) (lL : K.lookup fL = some ⟨ocL, odL, .func (PySem.W.fnOf "law" "law" (defArgs sL) (defBody sL) (defScope sL) .none kVL dcL pmL anL cdL ctL), slL⟩) (cL : PySem.W.codeIn K cdL "law" = true) (kL : PySem.W.keepIn K (.ref fL) = true)
    (z0 : PySem.W.nsIn K mainGlobals "len" = some none)
    (z1 : PySem.W.nsIn K mainGlobals "abs" = some none)
    (z2 : PySem.W.nsIn K mainGlobals "int" = some none)
    (z3 : PySem.W.nsIn K mainGlobals "str" = some none)
    (z4 : PySem.W.nsIn K mainGlobals "list" = some none)
    (z5 : PySem.W.nsIn K mainGlobals "tuple" = some none)
    (z6 : PySem.W.nsIn K mainGlobals "max" = some none)
    (z7 : PySem.W.nsIn K mainGlobals "min" = some none)
    (z8 : PySem.W.nsIn K mainGlobals "sum" = some none)
    (z9 : PySem.W.nsIn K mainGlobals "isinstance" = some none)
    (z10 : PySem.W.nsIn K mainGlobals "range" = some none)
    (z11 : PySem.W.nsIn K mainGlobals "bool" = some none)
    (z12 : PySem.W.nsIn K mainGlobals "enumerate" = some none)
    (z13 : PySem.W.nsIn K mainGlobals "zip" = some none)
    (z14 : PySem.W.nsIn K mainGlobals "ValueError" = some none)
    {ga1 : Addr} {go1 : Option Addr} {gn1 : Nat} {gs1 : Array (Option Value)} {gt1 gu1 : Tok} (ge1 : PySem.W.nsIn K mainGlobals "ONE" = some (some (.ref ga1))) (gl1 : K.lookup ga1 = some ⟨.type "tuple", go1, .seq #[.int 1 gt1, .int 1 gu1] gn1, gs1⟩)
    (en0 : PySem.W.nsIn K mainGlobals "UnfitChance" = some (some (.ref A0))) (ex0 : PySem.W.excIn K A0 [.type "ValueError", .type "Exception", .type "BaseException", .type "object"] "ValueError.__new__" = true) (ek0 : PySem.W.keepIn K (.ref A0) = true) (eb0 : PySem.W.subIn K (.ref A0) (.type "BaseException") = some true) (et0 : PySem.W.typeIn K (.ref A0) = some (.type "type"))
    (eg0 : PySem.W.findIn K (.ref A0) "__getattribute__" = some (some (.builtin "BaseException.__getattribute__"))) (eh0 : PySem.W.findIn K (.ref A0) "__getattr__" = some none) (ed0 : PySem.W.hasDictIn K A0 = true) (ea0 : PySem.W.findIn K (.ref A0) "__class__" = some (some (.builtin "object.__class__"))) (em0 : PySem.W.mroIn K A0 (.type "object") = some true) (ev0 : PySem.W.subIn K (.ref A0) (.type "ValueError") = some true)
    (en1 : PySem.W.nsIn K mainGlobals "TooWide" = some (some (.ref A1))) (ex1 : PySem.W.excIn K A1 [.type "ValueError", .type "Exception", .type "BaseException", .type "object"] "ValueError.__new__" = true) (ek1 : PySem.W.keepIn K (.ref A1) = true) (eb1 : PySem.W.subIn K (.ref A1) (.type "BaseException") = some true) (et1 : PySem.W.typeIn K (.ref A1) = some (.type "type"))
    (eg1 : PySem.W.findIn K (.ref A1) "__getattribute__" = some (some (.builtin "BaseException.__getattribute__"))) (eh1 : PySem.W.findIn K (.ref A1) "__getattr__" = some none) (ed1 : PySem.W.hasDictIn K A1 = true) (ea1 : PySem.W.findIn K (.ref A1) "__class__" = some (some (.builtin "object.__class__"))) (em1 : PySem.W.mroIn K A1 (.type "object") = some true) (ev1 : PySem.W.subIn K (.ref A1) (.type "ValueError") = some true)
    (sp : PySem.W.specialIn K (.builtin "object.__class__") "__get__" = some (some (.builtin "getset_descriptor.__get__"))) (tk : PySem.W.takesIn K (.builtin "object.__class__") = some true)
    (q00 : PySem.W.subIn K (.ref A0) (.ref A0) = some true) (q01 : PySem.W.subIn K (.ref A0) (.ref A1) = some false) (q10 : PySem.W.subIn K (.ref A1) (.ref A0) = some false) (q11 : PySem.W.subIn K (.ref A1) (.ref A1) = some true) :
    TopD Γ K mg (caOf A0 A1) ∧ ∃ fd : FuncData, Fun K "law" "law" sL fa fd ∧ ∀ (s : Shared) (u : Value), BindsTo s fd ⟨[u], []⟩ [("script", u)] := by
  have e := hfa.symm.trans (PySem.W.mg_of X G aL)
  cases e
  refine ⟨TopD.mk rfl (exf_mk (PySem.W.mg_of X G en0) (PySem.W.mg_of X G en1) ex0 ex1 ek0 ek1 eb0 eb1 et0 et1 ⟨eg0, eh0, eb0, ed0, ea0, sp, tk, em0⟩ ⟨eg1, eh1, eb1, ed1, ea1, sp, tk, em1⟩ ev0 ev1 q00 q01 q10 q11 (PySem.W.mg_none_of X G z14) (PySem.W.mg_none_of X G z9))
    (blt_mk (PySem.W.mg_none_of X G z0) (PySem.W.mg_none_of X G z1) (PySem.W.mg_none_of X G z2) (PySem.W.mg_none_of X G z3) (PySem.W.mg_none_of X G z4) (PySem.W.mg_none_of X G z5) (PySem.W.mg_none_of X G z6) (PySem.W.mg_none_of X G z7) (PySem.W.mg_none_of X G z8) (PySem.W.mg_none_of X G z9) (PySem.W.mg_none_of X G z10) (PySem.W.mg_none_of X G z11) (PySem.W.mg_none_of X G z12) (PySem.W.mg_none_of X G z13))
    (fun k hk => ?_) ?_, _, fun_mk (st := sL) lL cL kL, fun s v => .of_eq rfl⟩
  · have hk : k ∈ [1] := hk
    simp only [List.mem_cons, List.not_mem_nil, or_false] at hk
    subst hk
    · exact ⟨_, .ref ga1, PySem.W.mg_of X G ge1, rfl, fun G => tup2_K gl1⟩
  · refine all_fns (.cons ?_ (.cons ?_ (.cons ?_ (.cons ?_ (.cons ?_ (.cons ?_ (.cons ?_ (.cons ?_ (.cons ?_ (.cons ?_ (.cons ?_ (.cons ?_ (.cons ?_ (.cons ?_ (.cons ?_ (.cons ?_ (.cons ?_ (.cons ?_ (.cons ?_ (.cons ?_ (.cons ?_ (.cons ?_ (.cons ?_ (.cons ?_ (.cons ?_ (.cons ?_ (.cons ?_ (.cons ?_ (.cons ?_ .nil)))))))))))))))))))))))))))))
    · exact ⟨f0, s0, _, N0, _, fun_mk (st := s0) l0 c0 k0, PySem.W.mg_of X G a0, (fun_mk (st := s0) l0 c0 k0).binds (ps := ["value"]) (fun _ _ _ _ _ _ us hl => match us, hl with | [_], _ => rfl), sc0, rfl, rfl, m0⟩
    · exact ⟨f1, s1, _, N1, _, fun_mk (st := s1) l1 c1 k1, PySem.W.mg_of X G a1, (fun_mk (st := s1) l1 c1 k1).binds (ps := ["told", "word", "count"]) (fun _ _ _ _ _ _ us hl => match us, hl with | [_, _, _], _ => rfl), sc1, rfl, rfl, m1⟩
    · exact ⟨f2, s2, _, N2, _, fun_mk (st := s2) l2 c2 k2, PySem.W.mg_of X G a2, (fun_mk (st := s2) l2 c2 k2).binds (ps := ["one", "other"]) (fun _ _ _ _ _ _ us hl => match us, hl with | [_, _], _ => rfl), sc2, rfl, rfl, m2⟩
    · exact ⟨f3, s3, _, N3, _, fun_mk (st := s3) l3 c3 k3, PySem.W.mg_of X G a3, (fun_mk (st := s3) l3 c3 k3).binds (ps := ["number", "part"]) (fun _ _ _ _ _ _ us hl => match us, hl with | [_, _], _ => rfl), sc3, rfl, rfl, m3⟩
    · exact ⟨f4, s4, _, N4, _, fun_mk (st := s4) l4 c4 k4, PySem.W.mg_of X G a4, (fun_mk (st := s4) l4 c4 k4).binds (ps := ["one", "other"]) (fun _ _ _ _ _ _ us hl => match us, hl with | [_, _], _ => rfl), sc4, rfl, rfl, m4⟩
    · exact ⟨f5, s5, _, N5, _, fun_mk (st := s5) l5 c5 k5, PySem.W.mg_of X G a5, (fun_mk (st := s5) l5 c5 k5).binds (ps := ["one", "other"]) (fun _ _ _ _ _ _ us hl => match us, hl with | [_, _], _ => rfl), sc5, rfl, rfl, m5⟩
    · exact ⟨f6, s6, _, N6, _, fun_mk (st := s6) l6 c6 k6, PySem.W.mg_of X G a6, (fun_mk (st := s6) l6 c6 k6).binds (ps := ["one", "other"]) (fun _ _ _ _ _ _ us hl => match us, hl with | [_, _], _ => rfl), sc6, rfl, rfl, m6⟩
    · exact ⟨f7, s7, _, N7, _, fun_mk (st := s7) l7 c7 k7, PySem.W.mg_of X G a7, (fun_mk (st := s7) l7 c7 k7).binds (ps := ["number"]) (fun _ _ _ _ _ _ us hl => match us, hl with | [_], _ => rfl), sc7, rfl, rfl, m7⟩
    · exact ⟨f8, s8, _, N8, _, fun_mk (st := s8) l8 c8 k8, PySem.W.mg_of X G a8, (fun_mk (st := s8) l8 c8 k8).binds (ps := ["value"]) (fun _ _ _ _ _ _ us hl => match us, hl with | [_], _ => rfl), sc8, rfl, rfl, m8⟩
    · exact ⟨f9, s9, _, N9, _, fun_mk (st := s9) l9 c9 k9, PySem.W.mg_of X G a9, (fun_mk (st := s9) l9 c9 k9).binds (ps := ["value", "count"]) (fun _ _ _ _ _ _ us hl => match us, hl with | [_, _], _ => rfl), sc9, rfl, rfl, m9⟩
    · exact ⟨f10, s10, _, N10, _, fun_mk (st := s10) l10 c10 k10, PySem.W.mg_of X G a10, (fun_mk (st := s10) l10 c10 k10).binds (ps := ["row", "count"]) (fun _ _ _ _ _ _ us hl => match us, hl with | [_, _], _ => rfl), sc10, rfl, rfl, m10⟩
    · exact ⟨f11, s11, _, N11, _, fun_mk (st := s11) l11 c11 k11, PySem.W.mg_of X G a11, (fun_mk (st := s11) l11 c11 k11).binds (ps := ["row", "other"]) (fun _ _ _ _ _ _ us hl => match us, hl with | [_, _], _ => rfl), sc11, rfl, rfl, m11⟩
    · exact ⟨f12, s12, _, N12, _, fun_mk (st := s12) l12 c12 k12, PySem.W.mg_of X G a12, (fun_mk (st := s12) l12 c12 k12).binds (ps := ["row", "other", "told"]) (fun _ _ _ _ _ _ us hl => match us, hl with | [_, _, _], _ => rfl), sc12, rfl, rfl, m12⟩
    · exact ⟨f13, s13, _, N13, _, fun_mk (st := s13) l13 c13 k13, PySem.W.mg_of X G a13, (fun_mk (st := s13) l13 c13 k13).binds (ps := ["state", "limit"]) (fun _ _ _ _ _ _ us hl => match us, hl with | [_, _], _ => rfl), sc13, rfl, rfl, m13⟩
    · exact ⟨f14, s14, _, N14, _, fun_mk (st := s14) l14 c14 k14, PySem.W.mg_of X G a14, (fun_mk (st := s14) l14 c14 k14).binds (ps := ["actual", "expected"]) (fun _ _ _ _ _ _ us hl => match us, hl with | [_, _], _ => rfl), sc14, rfl, rfl, m14⟩
    · exact ⟨f15, s15, _, N15, _, fun_mk (st := s15) l15 c15 k15, PySem.W.mg_of X G a15, (fun_mk (st := s15) l15 c15 k15).binds (ps := ["state", "value"]) (fun _ _ _ _ _ _ us hl => match us, hl with | [_, _], _ => rfl), sc15, rfl, rfl, m15⟩
    · exact ⟨f16, s16, _, N16, _, fun_mk (st := s16) l16 c16 k16, PySem.W.mg_of X G a16, (fun_mk (st := s16) l16 c16 k16).binds (ps := ["value"]) (fun _ _ _ _ _ _ us hl => match us, hl with | [_], _ => rfl), sc16, rfl, rfl, m16⟩
    · exact ⟨f17, s17, _, N17, _, fun_mk (st := s17) l17 c17 k17, PySem.W.mg_of X G a17, (fun_mk (st := s17) l17 c17 k17).binds (ps := ["value", "one", "other"]) (fun _ _ _ _ _ _ us hl => match us, hl with | [_, _, _], _ => rfl), sc17, rfl, rfl, m17⟩
    · exact ⟨f18, s18, _, N18, _, fun_mk (st := s18) l18 c18 k18, PySem.W.mg_of X G a18, (fun_mk (st := s18) l18 c18 k18).binds (ps := ["state", "value"]) (fun _ _ _ _ _ _ us hl => match us, hl with | [_, _], _ => rfl), sc18, rfl, rfl, m18⟩
    · exact ⟨f19, s19, _, N19, _, fun_mk (st := s19) l19 c19 k19, PySem.W.mg_of X G a19, (fun_mk (st := s19) l19 c19 k19).binds (ps := ["state", "told"]) (fun _ _ _ _ _ _ us hl => match us, hl with | [_, _], _ => rfl), sc19, rfl, rfl, m19⟩
    · exact ⟨f20, s20, _, N20, _, fun_mk (st := s20) l20 c20 k20, PySem.W.mg_of X G a20, (fun_mk (st := s20) l20 c20 k20).binds (ps := ["state", "told"]) (fun _ _ _ _ _ _ us hl => match us, hl with | [_, _], _ => rfl), sc20, rfl, rfl, m20⟩
    · exact ⟨f21, s21, _, N21, _, fun_mk (st := s21) l21 c21 k21, PySem.W.mg_of X G a21, (fun_mk (st := s21) l21 c21 k21).binds (ps := ["a", "b"]) (fun _ _ _ _ _ _ us hl => match us, hl with | [_, _], _ => rfl), sc21, rfl, rfl, m21⟩
    · exact ⟨f22, s22, _, N22, _, fun_mk (st := s22) l22 c22 k22, PySem.W.mg_of X G a22, (fun_mk (st := s22) l22 c22 k22).binds (ps := ["p", "q"]) (fun _ _ _ _ _ _ us hl => match us, hl with | [_, _], _ => rfl), sc22, rfl, rfl, m22⟩
    · exact ⟨f23, s23, _, N23, _, fun_mk (st := s23) l23 c23 k23, PySem.W.mg_of X G a23, (fun_mk (st := s23) l23 c23 k23).binds (ps := ["a", "b"]) (fun _ _ _ _ _ _ us hl => match us, hl with | [_, _], _ => rfl), sc23, rfl, rfl, m23⟩
    · exact ⟨f24, s24, _, N24, _, fun_mk (st := s24) l24 c24 k24, PySem.W.mg_of X G a24, (fun_mk (st := s24) l24 c24 k24).binds (ps := ["state"]) (fun _ _ _ _ _ _ us hl => match us, hl with | [_], _ => rfl), sc24, rfl, rfl, m24⟩
    · exact ⟨f25, s25, _, N25, _, fun_mk (st := s25) l25 c25 k25, PySem.W.mg_of X G a25, (fun_mk (st := s25) l25 c25 k25).binds (ps := ["row", "other", "told"]) (fun _ _ _ _ _ _ us hl => match us, hl with | [_, _, _], _ => rfl), sc25, rfl, rfl, m25⟩
    · exact ⟨f26, s26, _, N26, _, fun_mk (st := s26) l26 c26 k26, PySem.W.mg_of X G a26, (fun_mk (st := s26) l26 c26 k26).binds (ps := ["row", "other"]) (fun _ _ _ _ _ _ us hl => match us, hl with | [_, _], _ => rfl), sc26, rfl, rfl, m26⟩
    · exact ⟨f27, s27, _, N27, _, fun_mk (st := s27) l27 c27 k27, PySem.W.mg_of X G a27, (fun_mk (st := s27) l27 c27 k27).binds (ps := ["state", "value"]) (fun _ _ _ _ _ _ us hl => match us, hl with | [_, _], _ => rfl), sc27, rfl, rfl, m27⟩
    · exact ⟨f28, s28, _, N28, _, fun_mk (st := s28) l28 c28 k28, PySem.W.mg_of X G a28, (fun_mk (st := s28) l28 c28 k28).binds (ps := ["state", "row", "other"]) (fun _ _ _ _ _ _ us hl => match us, hl with | [_, _, _], _ => rfl), sc28, rfl, rfl, m28⟩
end Cw.k58
open PySem PySem.W PyProof.Rows
set_option maxRecDepth 100000 in
set_option maxHeartbeats 0 in
theorem PySem.Challenge.cw_chancewhole_k58_dice_that_beat_holds : PySem.Challenge.rw_chancewhole_k58_dice_that_beat.Holds := by
  w_on; o_law; k_head; (case hw => w_witness2)
  k_fill
  refine' Cw.cw_walk (ca := Cw.caOf _ _) (Γ := Cw.k58.Γ) (l := PySem.Challenge.rw_chancewhole_k58_dice_that_beat) (most := Cw.k58.most) (n := Cw.k58.depth) (j := 1) (nn := 10) (rest := Cw.k58.lawRest) (st := Cw.k58.sL) (N := Cw.k58.NL) rfl (by decide) rfl ⟨rfl, by decide, by decide⟩ (fun w h Y => PySem.W.kIn_of Y) Cw.k58.scL rfl Cw.k58.mL ?F Cw.k58.plain
  case F =>
    intro w mg fa h KX G hmg
    refine' Cw.k58.all_mk KX G hmg ?a0 ?l0 ?c0 ?k0 ?a1 ?l1 ?c1 ?k1 ?a2 ?l2 ?c2 ?k2 ?a3 ?l3 ?c3 ?k3 ?a4 ?l4 ?c4 ?k4 ?a5 ?l5 ?c5 ?k5 ?a6 ?l6 ?c6 ?k6 ?a7 ?l7 ?c7 ?k7 ?a8 ?l8 ?c8 ?k8 ?a9 ?l9 ?c9 ?k9 ?a10 ?l10 ?c10 ?k10 ?a11 ?l11 ?c11 ?k11 ?a12 ?l12 ?c12 ?k12 ?a13 ?l13 ?c13 ?k13 ?a14 ?l14 ?c14 ?k14 ?a15 ?l15 ?c15 ?k15 ?a16 ?l16 ?c16 ?k16 ?a17 ?l17 ?c17 ?k17 ?a18 ?l18 ?c18 ?k18 ?a19 ?l19 ?c19 ?k19 ?a20 ?l20 ?c20 ?k20 ?a21 ?l21 ?c21 ?k21 ?a22 ?l22 ?c22 ?k22 ?a23 ?l23 ?c23 ?k23 ?a24 ?l24 ?c24 ?k24 ?a25 ?l25 ?c25 ?k25 ?a26 ?l26 ?c26 ?k26 ?a27 ?l27 ?c27 ?k27 ?a28 ?l28 ?c28 ?k28 ?aL ?lL ?cL ?kL ?z0 ?z1 ?z2 ?z3 ?z4 ?z5 ?z6 ?z7 ?z8 ?z9 ?z10 ?z11 ?z12 ?z13 ?z14 ?ge1 ?gl1 ?en0 ?ex0 ?ek0 ?eb0 ?et0 ?eg0 ?eh0 ?ed0 ?ea0 ?em0 ?ev0 ?en1 ?ex1 ?ek1 ?eb1 ?et1 ?eg1 ?eh1 ?ed1 ?ea1 ?em1 ?ev1 ?sp ?tk ?q00 ?q01 ?q10 ?q11
    (case a0 => k_is)
    (case l0 => k_is)
    (case c0 => k_is)
    (case k0 => k_is)
    (case a1 => k_is)
    (case l1 => k_is)
    (case c1 => k_is)
    (case k1 => k_is)
    (case a2 => k_is)
    (case l2 => k_is)
    (case c2 => k_is)
    (case k2 => k_is)
    (case a3 => k_is)
    (case l3 => k_is)
    (case c3 => k_is)
    (case k3 => k_is)
    (case a4 => k_is)
    (case l4 => k_is)
    (case c4 => k_is)
    (case k4 => k_is)
    (case a5 => k_is)
    (case l5 => k_is)
    (case c5 => k_is)
    (case k5 => k_is)
    (case a6 => k_is)
    (case l6 => k_is)
    (case c6 => k_is)
    (case k6 => k_is)
    (case a7 => k_is)
    (case l7 => k_is)
    (case c7 => k_is)
    (case k7 => k_is)
    (case a8 => k_is)
    (case l8 => k_is)
    (case c8 => k_is)
    (case k8 => k_is)
    (case a9 => k_is)
    (case l9 => k_is)
    (case c9 => k_is)
    (case k9 => k_is)
    (case a10 => k_is)
    (case l10 => k_is)
    (case c10 => k_is)
    (case k10 => k_is)
    (case a11 => k_is)
    (case l11 => k_is)
    (case c11 => k_is)
    (case k11 => k_is)
    (case a12 => k_is)
    (case l12 => k_is)
    (case c12 => k_is)
    (case k12 => k_is)
    (case a13 => k_is)
    (case l13 => k_is)
    (case c13 => k_is)
    (case k13 => k_is)
    (case a14 => k_is)
    (case l14 => k_is)
    (case c14 => k_is)
    (case k14 => k_is)
    (case a15 => k_is)
    (case l15 => k_is)
    (case c15 => k_is)
    (case k15 => k_is)
    (case a16 => k_is)
    (case l16 => k_is)
    (case c16 => k_is)
    (case k16 => k_is)
    (case a17 => k_is)
    (case l17 => k_is)
    (case c17 => k_is)
    (case k17 => k_is)
    (case a18 => k_is)
    (case l18 => k_is)
    (case c18 => k_is)
    (case k18 => k_is)
    (case a19 => k_is)
    (case l19 => k_is)
    (case c19 => k_is)
    (case k19 => k_is)
    (case a20 => k_is)
    (case l20 => k_is)
    (case c20 => k_is)
    (case k20 => k_is)
    (case a21 => k_is)
    (case l21 => k_is)
    (case c21 => k_is)
    (case k21 => k_is)
    (case a22 => k_is)
    (case l22 => k_is)
    (case c22 => k_is)
    (case k22 => k_is)
    (case a23 => k_is)
    (case l23 => k_is)
    (case c23 => k_is)
    (case k23 => k_is)
    (case a24 => k_is)
    (case l24 => k_is)
    (case c24 => k_is)
    (case k24 => k_is)
    (case a25 => k_is)
    (case l25 => k_is)
    (case c25 => k_is)
    (case k25 => k_is)
    (case a26 => k_is)
    (case l26 => k_is)
    (case c26 => k_is)
    (case k26 => k_is)
    (case a27 => k_is)
    (case l27 => k_is)
    (case c27 => k_is)
    (case k27 => k_is)
    (case a28 => k_is)
    (case l28 => k_is)
    (case c28 => k_is)
    (case k28 => k_is)
    (case aL => k_is)
    (case lL => k_is)
    (case cL => k_is)
    (case kL => k_is)
    (case z0 => k_is)
    (case z1 => k_is)
    (case z2 => k_is)
    (case z3 => k_is)
    (case z4 => k_is)
    (case z5 => k_is)
    (case z6 => k_is)
    (case z7 => k_is)
    (case z8 => k_is)
    (case z9 => k_is)
    (case z10 => k_is)
    (case z11 => k_is)
    (case z12 => k_is)
    (case z13 => k_is)
    (case z14 => k_is)
    (case ge1 => k_is)
    (case gl1 => k_is)
    (case en0 => k_is)
    (case ex0 => k_exc)
    (case ek0 => k_is)
    (case eb0 => k_is)
    (case et0 => k_is)
    (case eg0 => k_is)
    (case eh0 => k_is)
    (case ed0 => k_is)
    (case ea0 => k_is)
    (case em0 => k_is)
    (case ev0 => k_is)
    (case en1 => k_is)
    (case ex1 => k_exc)
    (case ek1 => k_is)
    (case eb1 => k_is)
    (case et1 => k_is)
    (case eg1 => k_is)
    (case eh1 => k_is)
    (case ed1 => k_is)
    (case ea1 => k_is)
    (case em1 => k_is)
    (case ev1 => k_is)
    (case sp => k_is)
    (case tk => k_is)
    (case q00 => k_is)
    (case q01 => k_is)
    (case q10 => k_is)
    (case q11 => k_is)

